import PyProof.Rows.All
import Wide.All
import OpenK.AllK
import Wide.FinOn
import HandS.ForMost
import HandS.Wide
import HandS.IsInst
import HandS.TupAny
import HandS.TupMul
import HandS.SortInts
import HandS.Zip
import HandS.NoneIn
import KE.GoesEnum
import HandS.Rev
import HandS.Conv
import HandS.More
import PySem.Challenge.RW_evennotes_k04_what_is_made
set_option Elab.async false
set_option linter.all false
set_option maxRecDepth 100000
set_option maxHeartbeats 4000000
/-! FL1: what a slot holds, and how the heap bears it -/
namespace FL
open PySem PySem.Spec PyProof.Rows L2

abbrev D := PyData

/-- what a slot holds: nothing, data that stands still, a list or a dict that this slot alone holds, an instance, a look at another slot -/
inductive Sl where
  | no
  | sh (d : D)
  | ol (ds : List D)
  | od (kvs : List (Key × D))
  | td (kvs : List (List Key × D))
  | tt (d : D) (ds : List D)
  | oi (c : Str) (fs : List (Str × Sl))
  | vw (i : Nat)
  | sc (ns : List Int)

abbrev Lo := List Sl

/-- an outcome -/
inductive Res (α : Type) where
  | bad
  | ok (a : α)
  | ex (c : Str) (p : D)
namespace Res
def bind {α β : Type} : Res α → (α → Res β) → Res β
  | .bad, _ => .bad
  | .ok a, f => f a
  | .ex c p, _ => .ex c p
instance : Monad Res where
  pure := .ok
  bind := Res.bind
theorem bind_ok {α β : Type} {x : Res α} {f : α → Res β} {b : β} (h : (x >>= f) = .ok b) : ∃ a, x = .ok a ∧ f a = .ok b := by
  cases x with
  | bad => cases h
  | ok a => exact ⟨a, rfl, h⟩
  | ex c p => cases h
@[simp] theorem ok_bind {α β : Type} (a : α) (f : α → Res β) : ((Res.ok a) >>= f) = f a := rfl
@[simp] theorem bad_bind {α β : Type} (f : α → Res β) : ((Res.bad : Res α) >>= f) = .bad := rfl
@[simp] theorem ex_bind {α β : Type} (c : Str) (p : D) (f : α → Res β) : ((Res.ex c p : Res α) >>= f) = .ex c p := rfl
@[simp] theorem pure_eq {α : Type} (a : α) : (pure a : Res α) = .ok a := rfl
def ofO {α : Type} : Option α → Res α
  | some a => .ok a
  | none => .bad
@[simp] theorem ofO_some {α : Type} (a : α) : ofO (some a) = .ok a := rfl
@[simp] theorem ofO_none {α : Type} : ofO (none : Option α) = .bad := rfl
theorem ofO_ok {α : Type} {o : Option α} {a : α} (h : ofO o = .ok a) : o = some a := by
  cases o with
  | none => cases h
  | some b => cases h; rfl
end Res

mutual
inductive Dt (K : PySem.W.Frag) (H : Hp) : V → PyData → Prop
  | non : Dt K H .non .none
  | bl (b : Bool) : Dt K H (.bl b) (.bool b)
  | int (i : Int) : Dt K H (.int i) (.int i)
  | str (x : Str) : Dt K H (.str x) (.str x)
  | lst {a : Addr} {xs : List V} {ds : List PyData} : H a = some (.lst xs) → DtAll K H xs ds → Dt K H (.ref a) (.list ds)
  | tup {a : Addr} {xs : List V} {ds : List PyData} : H a = some (.tup xs) → DtAll K H xs ds → Dt K H (.ref a) (.tuple ds)
inductive DtAll (K : PySem.W.Frag) (H : Hp) : List V → List PyData → Prop
  | nil : DtAll K H [] []
  | cons {v : V} {vs : List V} {d : PyData} {ds : List PyData} : Dt K H v d → DtAll K H vs ds → DtAll K H (v :: vs) (d :: ds)
end
mutual
theorem Dt.deep {K : PySem.W.Frag} {H : Hp} : ∀ (d : PyData) (v : V), Dt K H v d → L2.Dp K H v d
  | .none, _, h => by cases h; exact .non
  | .bool b, _, h => by cases h; exact .bl b
  | .int i, _, h => by cases h; exact .int i
  | .str x, _, h => by cases h; exact .str x
  | .list ds, _, h => by
    cases h with
    | lst hs ha => exact .lst (.of hs) (DtAll.deep ds _ ha)
  | .tuple ds, _, h => by
    cases h with
    | tup hs ha => exact .tup (.of hs) (DtAll.deep ds _ ha)
  | .dict _, _, h => by cases h
theorem DtAll.deep {K : PySem.W.Frag} {H : Hp} : ∀ (ds : List PyData) (vs : List V), DtAll K H vs ds → L2.DpAll K H vs ds
  | [], _, h => by cases h; exact .nil
  | d :: ds, _, h => by
    cases h with
    | cons h1 h2 => exact .cons (Dt.deep d _ h1) (DtAll.deep ds _ h2)
end
section
variable {K : PySem.W.Frag} {H H' : Hp}
theorem sameRd {a : Addr} {u : HO} (e : Same H H') (h : Rd H a u) : Rd H' a u := by
  rcases h with h | ⟨o, h⟩
  · exact .inl (e _ _ h)
  · exact .inr ⟨o, e _ _ h⟩
theorem sameTup {a : Addr} {xs : List V} (e : Same H H') (h : SqT K H a xs) : SqT K H' a xs := by
  rcases h with h | h
  · exact .inl (sameRd e h)
  · exact .inr h
mutual
theorem Dt.mono (e : Same H H') : ∀ (d : PyData) (v : V), Dt K H v d → Dt K H' v d
  | .none, _, h => by cases h; exact .non
  | .bool b, _, h => by cases h; exact .bl b
  | .int i, _, h => by cases h; exact .int i
  | .str x, _, h => by cases h; exact .str x
  | .list ds, _, h => by
    cases h with
    | lst hs ha => exact .lst (e _ _ hs) (DtAll.mono e ds _ ha)
  | .tuple ds, _, h => by
    cases h with
    | tup hs ha => exact .tup (e _ _ hs) (DtAll.mono e ds _ ha)
  | .dict _, _, h => by cases h
theorem DtAll.mono (e : Same H H') : ∀ (ds : List PyData) (vs : List V), DtAll K H vs ds → DtAll K H' vs ds
  | [], _, h => by cases h; exact .nil
  | d :: ds, _, h => by
    cases h with
    | cons h1 h2 => exact .cons (Dt.mono e d _ h1) (DtAll.mono e ds _ h2)
end
theorem DtAll.length : ∀ {vs : List V} {ds : List PyData}, DtAll K H vs ds → vs.length = ds.length
  | _, _, .nil => rfl
  | _, _, .cons _ t => by rw [List.length_cons, List.length_cons, t.length]
theorem DtAll.get : ∀ {vs : List V} {ds : List PyData} {i : Nat} {d : PyData}, DtAll K H vs ds → ds[i]? = some d → ∃ v, vs[i]? = some v ∧ Dt K H v d
  | _, _, _, _, .nil, e => by simp at e
  | _, _, 0, _, .cons r _, e => by simp at e; subst e; exact ⟨_, rfl, r⟩
  | _, _, i + 1, d, .cons _ t, e => by
    obtain ⟨v, h1, h2⟩ := DtAll.get (i := i) (d := d) t (by simpa using e)
    exact ⟨v, by simpa using h1, h2⟩
theorem DtAll.get' : ∀ {vs : List V} {ds : List PyData} {i : Nat} {v : V}, DtAll K H vs ds → vs[i]? = some v → ∃ d, ds[i]? = some d ∧ Dt K H v d
  | _, _, _, _, .nil, e => by simp at e
  | _, _, 0, _, .cons r _, e => by simp at e; subst e; exact ⟨_, rfl, r⟩
  | _, _, i + 1, d, .cons _ t, e => by
    obtain ⟨v, h1, h2⟩ := DtAll.get' (i := i) (v := d) t (by simpa using e)
    exact ⟨v, by simpa using h1, h2⟩
theorem DtAll.append : ∀ {xs ys : List V} {ds es : List PyData}, DtAll K H xs ds → DtAll K H ys es → DtAll K H (xs ++ ys) (ds ++ es)
  | _, _, _, _, .nil, s => s
  | _, _, _, _, .cons r t, s => .cons r (DtAll.append t s)
theorem DtAll.take : ∀ {xs : List V} {ds : List PyData} (n : Nat), DtAll K H xs ds → DtAll K H (xs.take n) (ds.take n)
  | _, _, 0, _ => .nil
  | _, _, _ + 1, .nil => .nil
  | _, _, n + 1, .cons r t => .cons r (DtAll.take n t)
theorem DtAll.drop : ∀ {xs : List V} {ds : List PyData} (n : Nat), DtAll K H xs ds → DtAll K H (xs.drop n) (ds.drop n)
  | _, _, 0, r => r
  | _, _, _ + 1, .nil => .nil
  | _, _, n + 1, .cons _ t => DtAll.drop n t
theorem DtAll.set {x : V} {d : PyData} (r : Dt K H x d) : ∀ {xs : List V} {ds : List PyData} (i : Nat), DtAll K H xs ds → DtAll K H (xs.set i x) (ds.set i d)
  | _, _, _, .nil => .nil
  | _, _, 0, .cons _ t => .cons r t
  | _, _, i + 1, .cons q t => .cons q (DtAll.set r i t)
theorem DtAll.one {x : V} {d : PyData} (r : Dt K H x d) : DtAll K H [x] [d] := .cons r .nil
theorem DtAll.reverse : ∀ {xs : List V} {ds : List PyData}, DtAll K H xs ds → DtAll K H xs.reverse ds.reverse
  | _, _, .nil => .nil
  | _, _, .cons r t => by
    rw [List.reverse_cons, List.reverse_cons]
    exact (DtAll.reverse t).append (.one r)
theorem DtAll.eraseIdx : ∀ {xs : List V} {ds : List PyData} (i : Nat), DtAll K H xs ds → DtAll K H (xs.eraseIdx i) (ds.eraseIdx i)
  | _, _, _, .nil => .nil
  | _, _, 0, .cons _ t => t
  | _, _, i + 1, .cons q t => .cons q (DtAll.eraseIdx i t)
theorem DtAll.rep : ∀ {xs : List V} {ds : List PyData} (n : Nat), DtAll K H xs ds → DtAll K H (List.replicate n xs).flatten (List.replicate n ds).flatten
  | _, _, 0, _ => .nil
  | _, _, n + 1, r => by
    rw [List.replicate_succ, List.replicate_succ, List.flatten_cons, List.flatten_cons]
    exact r.append (DtAll.rep n r)
theorem DtAll.ints : ∀ (ns : List Int), DtAll K H (ns.map V.int) (ns.map PyData.int)
  | [] => .nil
  | n :: ns => .cons (.int n) (DtAll.ints ns)
theorem DtAll.strs : ∀ (ns : List Str), DtAll K H (ns.map V.str) (ns.map PyData.str)
  | [] => .nil
  | n :: ns => .cons (.str n) (DtAll.strs ns)
theorem DtAll.of_ints : ∀ {vs : List V} {ns : List Int}, DtAll K H vs (ns.map PyData.int) → vs = ns.map V.int
  | _, [], h => by cases h; rfl
  | _, n :: ns, h => by
    cases h with
    | cons r t => cases r; rw [DtAll.of_ints t]; rfl
theorem DtAll.of_strs : ∀ {vs : List V} {ns : List Str}, DtAll K H vs (ns.map PyData.str) → vs = ns.map V.str
  | _, [], h => by cases h; rfl
  | _, n :: ns, h => by
    cases h with
    | cons r t => cases r; rw [DtAll.of_strs t]; rfl

end
section
variable {K : PySem.W.Frag} {H H' : Hp}
/-- a dict's entries -/
inductive DpKV (K : PySem.W.Frag) (H : Hp) : List (Key × V) → List (Key × D) → Prop
  | nil : DpKV K H [] []
  | cons {k : Key} {v : V} {d : D} {ks : List (Key × V)} {es : List (Key × D)} : Dt K H v d → DpKV K H ks es → DpKV K H ((k, v) :: ks) ((k, d) :: es)
theorem DpKV.mono (e : Same H H') : ∀ {ks : List (Key × V)} {es : List (Key × D)}, DpKV K H ks es → DpKV K H' ks es
  | _, _, .nil => .nil
  | _, _, .cons r t => .cons (Dt.mono e _ _ r) (DpKV.mono e t)
theorem DpKV.length : ∀ {ks : List (Key × V)} {es : List (Key × D)}, DpKV K H ks es → ks.length = es.length
  | _, _, .nil => rfl
  | _, _, .cons _ t => by rw [List.length_cons, List.length_cons, t.length]
theorem DpKV.keys : ∀ {ks : List (Key × V)} {es : List (Key × D)}, DpKV K H ks es → ks.map (·.1) = es.map (·.1)
  | _, _, .nil => rfl
  | _, _, .cons _ t => by rw [List.map_cons, List.map_cons, t.keys]

/-- the entries of a dict whose keys are tuples -/
inductive DpKT (K : PySem.W.Frag) (H : Hp) : List (List Key × V) → List (List Key × D) → Prop
  | nil : DpKT K H [] []
  | cons {k : List Key} {v : V} {d : D} {ks : List (List Key × V)} {es : List (List Key × D)} : Dt K H v d → DpKT K H ks es → DpKT K H ((k, v) :: ks) ((k, d) :: es)
theorem DpKT.mono (e : Same H H') : ∀ {ks : List (List Key × V)} {es : List (List Key × D)}, DpKT K H ks es → DpKT K H' ks es
  | _, _, .nil => .nil
  | _, _, .cons r t => .cons (Dt.mono e _ _ r) (DpKT.mono e t)
theorem DpKT.length : ∀ {ks : List (List Key × V)} {es : List (List Key × D)}, DpKT K H ks es → ks.length = es.length
  | _, _, .nil => rfl
  | _, _, .cons _ t => by rw [List.length_cons, List.length_cons, t.length]

/-- a box: data that stands still (in G), a list or a dict of one's own (in H) -/
inductive RB (K : PySem.W.Frag) (G H : Hp) : V → Sl → List Addr → Prop
  | sh {v : V} {d : D} : Dt K G v d → RB K G H v (.sh d) []
  | ol {p : Addr} {vs : List V} {ds : List D} : H p = some (.lst vs) → DtAll K G vs ds → RB K G H (.ref p) (.ol ds) [p]
  | od {p : Addr} {ks : List (Key × V)} {es : List (Key × D)} : H p = some (.dK ks) → DpKV K G ks es → RB K G H (.ref p) (.od es) [p]
  | td {p : Addr} {ks : List (List Key × V)} {es : List (List Key × D)} : H p = some (.dT ks) → DpKT K G ks es → RB K G H (.ref p) (.td es) [p]
  | tt {p q : Addr} {v : V} {d : D} {vs : List V} {ds : List D} : H p = some (.tup [v, .ref q]) → Dt K G v d → H q = some (.lst vs) → DtAll K G vs ds → RB K G H (.ref p) (.tt d ds) [p, q]
  | sc {p : Addr} {ns : List Int} : SqL K G p (ns.map V.int) → RB K G H (.ref p) (.sc ns) []
inductive RF (K : PySem.W.Frag) (G H : Hp) : List (Str × V) → List (Str × Sl) → List Addr → Prop
  | nil : RF K G H [] [] []
  | cons {f : Str} {v : V} {s : Sl} {o os : List Addr} {fs : List (Str × V)} {ss : List (Str × Sl)} : RB K G H v s o → RF K G H fs ss os → RF K G H ((f, v) :: fs) ((f, s) :: ss) (o ++ os)
inductive RI (K : PySem.W.Frag) (mg : Str → Option Value) (G H : Hp) : Option V → Sl → List Addr → Prop
  | no {ov : Option V} : RI K mg G H ov .no []
  | vw {v : V} {i : Nat} : RI K mg G H (some v) (.vw i) []
  | bx {v : V} {s : Sl} {o : List Addr} : RB K G H v s o → RI K mg G H (some v) s o
  | oi {c : Str} {C p dx : Addr} {fs : List (Str × V)} {ss : List (Str × Sl)} {o : List Addr} : mg c = some (.ref C) → H p = some (.ins C dx fs) → RF K G H fs ss o → RI K mg G H (some (.ref p)) (.oi c ss) (p :: o)
abbrev Item := Option V × Sl
inductive RL (K : PySem.W.Frag) (mg : Str → Option Value) (G H : Hp) : List Item → List Addr → Prop
  | nil : RL K mg G H [] []
  | cons {ov : Option V} {s : Sl} {o os : List Addr} {l : List Item} : RI K mg G H ov s o → RL K mg G H l os → RL K mg G H ((ov, s) :: l) (o ++ os)
/-- the heap bears the items: G what stands still -/
structure Rp (K : PySem.W.Frag) (mg : Str → Option Value) (G H : Hp) (l : List Item) (os : List Addr) : Prop where
  same : Same G H
  rl : RL K mg G H l os
  nd : os.Nodup
  off : ∀ a ∈ os, G a = none
def Rep (K : PySem.W.Frag) (mg : Str → Option Value) (H : Hp) (l : List Item) : Prop := ∃ G os, Rp K mg G H l os

variable {mg : Str → Option Value} {G G' : Hp} {l l' : List Item} {os : List Addr} {v : V} {s : Sl} {ov : Option V} {p : Addr}

theorem RB.mono (e : Same G G') (e' : ∀ a ∈ os, ∀ o, H a = some o → H' a = some o) (h : RB K G H v s os) : RB K G' H' v s os := by
  cases h with
  | sh d => exact .sh (Dt.mono e _ _ d)
  | ol hp ha => exact .ol (e' _ (by simp) _ hp) (DtAll.mono e _ _ ha)
  | od hp ha => exact .od (e' _ (by simp) _ hp) (ha.mono e)
  | td hp ha => exact .td (e' _ (by simp) _ hp) (ha.mono e)
  | tt hp hd hq ha => exact .tt (e' _ (by simp) _ hp) (Dt.mono e _ _ hd) (e' _ (by simp) _ hq) (DtAll.mono e _ _ ha)
  | sc hs => exact .sc (e.seq hs)
theorem RF.mono (e : Same G G') : ∀ {fs : List (Str × V)} {ss : List (Str × Sl)} {os : List Addr}, (∀ a ∈ os, ∀ o, H a = some o → H' a = some o) → RF K G H fs ss os → RF K G' H' fs ss os
  | _, _, _, _, .nil => .nil
  | _, _, _, e', .cons r t => .cons (r.mono e fun a ha => e' a (List.mem_append_left _ ha)) (RF.mono e (fun a ha => e' a (List.mem_append_right _ ha)) t)
theorem RI.mono (e : Same G G') (e' : ∀ a ∈ os, ∀ o, H a = some o → H' a = some o) (h : RI K mg G H ov s os) : RI K mg G' H' ov s os := by
  cases h with
  | no => exact .no
  | vw => exact .vw
  | bx b => exact .bx (b.mono e e')
  | oi hm hp hf => exact .oi hm (e' _ (by simp) _ hp) (hf.mono e fun a ha => e' a (List.mem_cons_of_mem _ ha))
theorem RL.mono (e : Same G G') : ∀ {l : List Item} {os : List Addr}, (∀ a ∈ os, ∀ o, H a = some o → H' a = some o) → RL K mg G H l os → RL K mg G' H' l os
  | _, _, _, .nil => .nil
  | _, _, e', .cons r t => .cons (r.mono e fun a ha => e' a (List.mem_append_left _ ha)) (RL.mono e (fun a ha => e' a (List.mem_append_right _ ha)) t)
/-- each address of one's own is known -/
theorem RB.there (h : RB K G H v s os) : ∀ a ∈ os, ∃ o, H a = some o := by
  cases h with
  | sh d => intro a ha; cases ha
  | ol hp ha => intro a ha; simp at ha; subst ha; exact ⟨_, hp⟩
  | od hp ha => intro a ha; simp at ha; subst ha; exact ⟨_, hp⟩
  | td hp ha => intro a ha; simp at ha; subst ha; exact ⟨_, hp⟩
  | tt hp hd hq ha =>
    intro a ha
    simp at ha
    rcases ha with rfl | rfl
    · exact ⟨_, hp⟩
    · exact ⟨_, hq⟩
  | sc _ => intro a ha; cases ha
theorem RF.there : ∀ {fs : List (Str × V)} {ss : List (Str × Sl)} {os : List Addr}, RF K G H fs ss os → ∀ a ∈ os, ∃ o, H a = some o
  | _, _, _, .nil, a, ha => by cases ha
  | _, _, _, .cons r t, a, ha => by
    rcases List.mem_append.mp ha with ha | ha
    · exact r.there a ha
    · exact RF.there t a ha
theorem RI.there (h : RI K mg G H ov s os) : ∀ a ∈ os, ∃ o, H a = some o := by
  cases h with
  | no => intro a ha; cases ha
  | vw => intro a ha; cases ha
  | bx b => exact b.there
  | oi hm hp hf =>
    intro a ha
    rcases List.mem_cons.mp ha with rfl | ha
    · exact ⟨_, hp⟩
    · exact hf.there a ha
theorem RL.there : ∀ {l : List Item} {os : List Addr}, RL K mg G H l os → ∀ a ∈ os, ∃ o, H a = some o
  | _, _, .nil, a, ha => by cases ha
  | _, _, .cons r t, a, ha => by
    rcases List.mem_append.mp ha with ha | ha
    · exact r.there a ha
    · exact RL.there t a ha
theorem RL.perm : ∀ {l l' : List Item}, l.Perm l' → ∀ {os : List Addr}, RL K mg G H l os → ∃ os', RL K mg G H l' os' ∧ os.Perm os' := by
  intro l l' hp
  induction hp with
  | nil => intro os h; exact ⟨os, h, .refl _⟩
  | cons x _ ih =>
    intro os h
    cases h with
    | cons r t =>
      obtain ⟨os', h', q⟩ := ih t
      exact ⟨_, .cons r h', q.append_left _⟩
  | swap x y l =>
    intro os h
    cases h with
    | cons r t =>
      cases t with
      | cons r2 t2 =>
        refine ⟨_, .cons r2 (.cons r t2), ?_⟩
        rw [← List.append_assoc, ← List.append_assoc]
        exact List.perm_append_comm.append_right _
  | trans _ _ ih1 ih2 =>
    intro os h
    obtain ⟨os1, h1, q1⟩ := ih1 h
    obtain ⟨os2, h2, q2⟩ := ih2 h1
    exact ⟨os2, h2, q1.trans q2⟩
theorem Rp.perm (h : Rp K mg G H l os) (hp : l.Perm l') : ∃ os', Rp K mg G H l' os' := by
  obtain ⟨os', r, q⟩ := h.rl.perm hp
  exact ⟨os', h.same, r, q.nodup_iff.mp h.nd, fun a ha => h.off a (q.mem_iff.mpr ha)⟩
theorem Rep.perm (h : Rep K mg H l) (hp : l.Perm l') : Rep K mg H l' := by
  obtain ⟨G, os, h⟩ := h
  obtain ⟨os', h'⟩ := h.perm hp
  exact ⟨G, os', h'⟩
/-- an item less -/
theorem Rp.tail {it : Item} (h : Rp K mg G H (it :: l) os) : ∃ os', Rp K mg G H l os' := by
  obtain ⟨s, r, n, f⟩ := h
  cases r with
  | cons r t => exact ⟨_, s, t, (List.nodup_append.mp n).2.1, fun a ha => f a (List.mem_append_right _ ha)⟩
theorem Rep.tail {it : Item} (h : Rep K mg H (it :: l)) : Rep K mg H l := by
  obtain ⟨G, os, h⟩ := h
  obtain ⟨os', h'⟩ := h.tail
  exact ⟨G, os', h'⟩
/-- an item that has nothing of its own -/
theorem Rp.push (h : Rp K mg G H l os) (r : RI K mg G H ov s []) : Rp K mg G H ((ov, s) :: l) os := by
  refine ⟨h.same, ?_, h.nd, h.off⟩
  have := RL.cons r h.rl
  simpa using this
theorem Rep.no (h : Rep K mg H l) (ov : Option V) : Rep K mg H ((ov, .no) :: l) := by
  obtain ⟨G, os, h⟩ := h
  exact ⟨G, os, h.push .no⟩
theorem Rp.sh (h : Rp K mg G H l os) {d : D} (r : Dt K G v d) : Rp K mg G H ((some v, .sh d) :: l) os := h.push (.bx (.sh r))
/-- a new object that stands still from now on -/
theorem Rp.still {o : HO} (h : Rp K mg G H l os) (hp : H p = none) : Rp K mg (upd G p o) (upd H p o) l os := by
  have gp : G p = none := h.same.free hp
  have hne : ∀ a ∈ os, a ≠ p := fun a ha e => by
    obtain ⟨u, hu⟩ := h.rl.there a ha
    rw [e, hp] at hu; cases hu
  have sG : Same G (upd G p o) := fun b x e => by rw [upd_ne (ne_of_none e gp)]; exact e
  refine ⟨fun b x e => ?_, h.rl.mono sG (fun a ha x e => by rw [upd_ne (hne a ha)]; exact e), h.nd, fun a ha => by rw [upd_ne (hne a ha)]; exact h.off a ha⟩
  by_cases hb : b = p
  · subst hb; rw [upd_same] at e ⊢; exact e
  · rw [upd_ne hb] at e ⊢; exact h.same b x e
theorem sameG {o : HO} (gp : G p = none) : Same G (upd G p o) := fun b x e => by rw [upd_ne (ne_of_none e gp)]; exact e
/-- a new object of one's own -/
theorem Rp.new {o : HO} (h : Rp K mg G H l os) (hp : H p = none) (r : ∀ H', H' p = some o → RI K mg G H' (some (.ref p)) s [p]) : Rp K mg G (upd H p o) ((some (.ref p), s) :: l) (p :: os) := by
  have gp : G p = none := h.same.free hp
  have hne : ∀ a ∈ os, a ≠ p := fun a ha e => by
    obtain ⟨u, hu⟩ := h.rl.there a ha
    rw [e, hp] at hu; cases hu
  refine ⟨fun b x e => by rw [upd_ne (ne_of_none e gp)]; exact h.same b x e, ?_, List.nodup_cons.mpr ⟨fun ha => hne p ha rfl, h.nd⟩, fun a ha => ?_⟩
  · exact RL.cons (r _ upd_same) (h.rl.mono (fun _ _ q => q) fun a ha x e => by rw [upd_ne (hne a ha)]; exact e)
  · rcases List.mem_cons.mp ha with rfl | ha
    · exact gp
    · exact h.off a ha
/-- an unknown object is written that no item holds (a list under making) -/
theorem Rp.newOl {vs : List V} {ds : List D} (h : Rp K mg G H l os) (hp : H p = none) (ha : DtAll K G vs ds) : Rp K mg G (upd H p (.lst vs)) ((some (.ref p), .ol ds) :: l) (p :: os) :=
  h.new hp fun H' e => .bx (.ol e ha)
/-- a list of one's own is changed -/
theorem Rp.mut {o : HO} {s' : Sl} (h : Rp K mg G H ((some (.ref p), s) :: l) os) (hs : ∀ q, RI K mg G H (some (.ref p)) s q → q = [p]) (r : ∀ H', H' p = some o → RI K mg G H' (some (.ref p)) s' [p]) :
    Rp K mg G (upd H p o) ((some (.ref p), s') :: l) os := by
  obtain ⟨sm, rl, n, f⟩ := h
  cases rl with
  | cons ri t =>
    have e := hs _ ri
    subst e
    have gp : G p = none := f p (by simp)
    have n2 : p ∉ _ ∧ _ := List.nodup_cons.mp (by simpa using n)
    refine ⟨fun b x e => by rw [upd_ne (ne_of_none e gp)]; exact sm b x e, ?_, n, f⟩
    exact RL.cons (r _ upd_same) (t.mono (fun _ _ q => q) fun a ha x e => by rw [upd_ne (fun z => n2.1 (by rw [← z]; exact ha))]; exact e)
theorem ol_own {ds : List D} : ∀ q, RI K mg G H (some (.ref p)) (.ol ds) q → q = [p] := fun q h => by
  cases h with
  | bx b => cases b with
    | ol _ _ => rfl
theorem od_own {ds : List (Key × D)} : ∀ q, RI K mg G H (some (.ref p)) (.od ds) q → q = [p] := fun q h => by
  cases h with
  | bx b => cases b with
    | od _ _ => rfl
theorem td_own {ds : List (List Key × D)} : ∀ q, RI K mg G H (some (.ref p)) (.td ds) q → q = [p] := fun q h => by
  cases h with
  | bx b => cases b with
    | td _ _ => rfl
/-- a list of one's own stands still from now on -/
theorem Rp.freeze {ds : List D} (h : Rp K mg G H ((ov, .ol ds) :: l) os) : ∃ G' v, ov = some v ∧ Same G G' ∧ Dt K G' v (.list ds) ∧ ∃ os', Rp K mg G' H ((ov, .sh (.list ds)) :: l) os' := by
  obtain ⟨sm, rl, n, f⟩ := h
  cases rl with
  | cons ri t =>
    cases ri with
    | bx b =>
      cases b with
      | @ol p vs ds hp ha =>
        have gp : G p = none := f p (by simp)
        have n2 : p ∉ _ ∧ _ := List.nodup_cons.mp (by simpa using n)
        have sG : Same G (upd G p (.lst vs)) := sameG gp
        have dd : Dt K (upd G p (.lst vs)) (.ref p) (.list ds) := Dt.lst upd_same (DtAll.mono sG _ _ ha)
        refine ⟨upd G p (.lst vs), .ref p, rfl, sG, dd, _, Rp.sh ⟨fun b x e => ?_, t.mono sG (fun a ha x e => e), n2.2, fun a ha => ?_⟩ dd⟩
        · by_cases hb : b = p
          · subst hb; rw [upd_same] at e; rw [hp]; exact e
          · rw [upd_ne hb] at e; exact sm b x e
        · rw [upd_ne (fun z => n2.1 (by rw [← z]; exact ha))]; exact f a (List.mem_append_right _ ha)
theorem Rep.freeze {ds : List D} (h : Rep K mg H ((ov, .ol ds) :: l)) : Rep K mg H ((ov, .sh (.list ds)) :: l) := by
  obtain ⟨G, os, h⟩ := h
  obtain ⟨G', _, _, _, _, os', h'⟩ := h.freeze
  exact ⟨G', os', h'⟩
theorem Rp.shOf {d : D} (h : Rp K mg G H l os) (hm : (ov, .sh d) ∈ l) : ∃ v, ov = some v ∧ Dt K G v d := by
  have key : ∀ {l : List Item} {os : List Addr}, RL K mg G H l os → (ov, Sl.sh d) ∈ l → ∃ v, ov = some v ∧ Dt K G v d := by
    intro l os r
    induction r with
    | nil => intro h; cases h
    | cons ri t ih =>
      intro h
      rcases List.mem_cons.mp h with e | h
      · cases e
        cases ri with
        | bx b => cases b with
          | sh d => exact ⟨_, rfl, d⟩
      · exact ih h
  exact key h.rl hm
theorem Rp.someOf (h : Rp K mg G H l os) (hm : (ov, s) ∈ l) (hn : s ≠ .no) : ∃ v, ov = some v := by
  have key : ∀ {l : List Item} {os : List Addr}, RL K mg G H l os → (ov, s) ∈ l → ∃ v, ov = some v := by
    intro l os r
    induction r with
    | nil => intro h; cases h
    | cons ri t ih =>
      intro h
      rcases List.mem_cons.mp h with e | h
      · cases e
        cases ri with
        | no => exact absurd rfl hn
        | vw => exact ⟨_, rfl⟩
        | bx b => exact ⟨_, rfl⟩
        | oi _ _ _ => exact ⟨_, rfl⟩
      · exact ih h
  exact key h.rl hm
end
end FL

/-! FL2: readings as functions: expressions -/
namespace FL
open PySem PySem.Spec PyProof.Rows L2

/-! ### the frame's items -/
theorem zip_perm : ∀ {σ : List (Option V)} {env : Lo} {i : Nat} {ov : Option V} {s : Sl}, σ[i]? = some ov → env[i]? = some s →
    ∃ R : List Item, (σ.zip env).Perm ((ov, s) :: R) ∧ (∀ ov' s', ((σ.set i ov').zip (env.set i s')).Perm ((ov', s') :: R)) ∧ ∀ s', (σ.zip (env.set i s')).Perm ((ov, s') :: R)
  | [], _, _, _, _, h, _ => by simp at h
  | _ :: _, [], _, _, _, _, h => by simp at h
  | a :: σ, b :: env, 0, ov, s, h1, h2 => by
    simp at h1 h2; subst h1; subst h2
    exact ⟨σ.zip env, .refl _, fun _ _ => .refl _, fun _ => .refl _⟩
  | a :: σ, b :: env, i + 1, ov, s, h1, h2 => by
    obtain ⟨R, p1, p2, p3⟩ := zip_perm (σ := σ) (env := env) (i := i) (ov := ov) (s := s) (by simpa using h1) (by simpa using h2)
    refine ⟨(a, b) :: R, ?_, fun ov' s' => ?_, fun s' => ?_⟩
    · exact (p1.cons _).trans (.swap _ _ _)
    · exact ((p2 ov' s').cons _).trans (.swap _ _ _)
    · exact ((p3 s').cons _).trans (.swap _ _ _)
theorem mem_zip : ∀ {σ : List (Option V)} {env : Lo} {i : Nat} {ov : Option V} {s : Sl}, σ[i]? = some ov → env[i]? = some s → (ov, s) ∈ σ.zip env
  | [], _, _, _, _, h, _ => by simp at h
  | _ :: _, [], _, _, _, _, h => by simp at h
  | a :: σ, b :: env, 0, ov, s, h1, h2 => by
    simp at h1 h2; subst h1; subst h2; simp
  | a :: σ, b :: env, i + 1, ov, s, h1, h2 => by
    rw [List.zip_cons_cons]
    exact List.mem_cons_of_mem _ (mem_zip (by simpa using h1) (by simpa using h2))

structure Hold (K : PySem.W.Frag) (mg : Str → Option Value) (H : Hp) (σ : L2.St) (env : Lo) (l : List Item) : Prop where
  len : σ.length = env.length
  rep : Rep K mg H (σ.zip env ++ l)
def VwOk (σ : L2.St) (v : V) (r : Sl) : Prop := ∀ i, r = .vw i → σ[i]? = some (some v)
structure HoldV (K : PySem.W.Frag) (mg : Str → Option Value) (H : Hp) (σ : L2.St) (env : Lo) (l : List Item) (v : V) (r : Sl) : Prop where
  len : σ.length = env.length
  rep : Rep K mg H ((some v, r) :: (σ.zip env ++ l))
  vw : VwOk σ v r

section
variable {K : PySem.W.Frag} {mg : Str → Option Value} {G H H' : Hp} {σ : L2.St} {env : Lo} {l L : List Item} {os : List Addr} {v : V} {r s : Sl} {i : Nat} {ov : Option V}
theorem slot_at (h : σ.length = env.length) (e : env[i]? = some s) : ∃ ov, σ[i]? = some ov := by
  have hi : i < env.length := (List.getElem?_eq_some_iff.mp e).1
  exact ⟨σ[i]'(by omega), List.getElem?_eq_getElem (by omega)⟩
/-- a slot's item is taken out -/
theorem Hold.take (h : Hold K mg H σ env l) (e : env[i]? = some s) : ∃ ov, σ[i]? = some ov ∧ Rep K mg H ((ov, s) :: (σ.zip (env.set i .no) ++ l)) := by
  obtain ⟨ov, e1⟩ := slot_at h.len e
  obtain ⟨R, p1, _, p3⟩ := zip_perm e1 e
  refine ⟨ov, e1, ?_⟩
  have q : Rep K mg H ((ov, s) :: (R ++ l)) := h.rep.perm (p1.append_right l)
  have q2 : Rep K mg H ((ov, .no) :: ((ov, s) :: (R ++ l))) := q.no ov
  refine q2.perm ?_
  refine (List.Perm.swap _ _ _).trans (List.Perm.cons _ ?_)
  exact ((p3 .no).append_right l).symm
/-- .. and put back -/
theorem Rep.put (h : Rep K mg H ((ov, s) :: (σ.zip env ++ l))) (hl : σ.length = env.length) (e : σ[i]? = some ov) : Rep K mg H (σ.zip (env.set i s) ++ l) := by
  have hi : i < σ.length := (List.getElem?_eq_some_iff.mp e).1
  have e2 : env[i]? = some (env[i]'(by omega)) := List.getElem?_eq_getElem (by omega)
  obtain ⟨R, p1, _, p3⟩ := zip_perm e e2
  have q : Rep K mg H ((ov, env[i]'(by omega)) :: ((ov, s) :: (R ++ l))) := h.perm (((p1.append_right l).cons _).trans (.swap _ _ _))
  exact q.tail.perm ((p3 s).append_right l).symm
/-- a slot gets a value -/
theorem Rep.asg (h : Rep K mg H ((some v, r) :: (σ.zip env ++ l))) (hl : σ.length = env.length) (hi : i < env.length) : Rep K mg H ((σ.set i (some v)).zip (env.set i r) ++ l) := by
  have e1 : σ[i]? = some (σ[i]'(by omega)) := List.getElem?_eq_getElem (by omega)
  have e2 : env[i]? = some (env[i]'(by omega)) := List.getElem?_eq_getElem (by omega)
  obtain ⟨R, p1, p2, _⟩ := zip_perm e1 e2
  have q : Rep K mg H ((σ[i]'(by omega), env[i]'(by omega)) :: ((some v, r) :: (R ++ l))) := h.perm (((p1.append_right l).cons _).trans (.swap _ _ _))
  exact q.tail.perm ((p2 _ r).append_right l).symm
theorem Hold.more {it : Item} (h : Hold K mg H σ env (it :: l)) : Hold K mg H σ env l := ⟨h.len, by
  have : Rep K mg H (it :: (σ.zip env ++ l)) := h.rep.perm List.perm_middle
  exact this.tail⟩
theorem HoldV.hold (h : HoldV K mg H σ env l v r) : Hold K mg H σ env ((some v, r) :: l) := ⟨h.len, h.rep.perm List.perm_middle.symm⟩
theorem HoldV.drop (h : HoldV K mg H σ env l v r) : Hold K mg H σ env l := ⟨h.len, h.rep.tail⟩
theorem Hold.toV (h : Hold K mg H σ env ((some v, r) :: l)) (hv : VwOk σ v r) : HoldV K mg H σ env l v r := ⟨h.len, h.rep.perm List.perm_middle, hv⟩

/-! ### what a value is worth now -/
def view (env : Lo) : Sl → Option D
  | .sh d => some d
  | .ol ds => some (.list ds)
  | .vw i => match env[i]? with
    | some (.ol ds) => some (.list ds)
    | _ => none
  | _ => none
/-- data; a list of one's own above data -/
def DpT (K : PySem.W.Frag) (G H : Hp) (v : V) (d : D) : Prop := Dt K G v d ∨ ∃ p vs ds, v = .ref p ∧ d = .list ds ∧ H p = some (.lst vs) ∧ DtAll K G vs ds
theorem DpT.list {ds : List D} (sm : Same G H) (h : DpT K G H v (.list ds)) : ∃ p vs, v = .ref p ∧ H p = some (.lst vs) ∧ DtAll K G vs ds := by
  rcases h with h | ⟨p, vs, ds', rfl, e, hp, ha⟩
  · cases h with
    | lst hs ha => exact ⟨_, _, rfl, sm _ _ hs, ha⟩
  · cases e
    exact ⟨p, vs, rfl, hp, ha⟩
theorem DpT.tuple {ds : List D} (sm : Same G H) (h : DpT K G H v (.tuple ds)) : ∃ p vs, v = .ref p ∧ SqT K H p vs ∧ DtAll K G vs ds := by
  rcases h with h | ⟨p, vs, ds', rfl, e, hp, ha⟩
  · cases h with
    | tup hs ha => exact ⟨_, _, rfl, .of (sm _ _ hs), ha⟩
  · cases e
theorem DpT.int {n : Int} (h : DpT K G H v (.int n)) : v = .int n := by
  rcases h with h | ⟨p, vs, ds', rfl, e, hp, ha⟩
  · cases h; rfl
  · cases e
theorem DpT.str {x : Str} (h : DpT K G H v (.str x)) : v = .str x := by
  rcases h with h | ⟨p, vs, ds', rfl, e, hp, ha⟩
  · cases h; rfl
  · cases e
theorem DpT.bool {b : Bool} (h : DpT K G H v (.bool b)) : v = .bl b := by
  rcases h with h | ⟨p, vs, ds', rfl, e, hp, ha⟩
  · cases h; rfl
  · cases e
theorem DpT.none (h : DpT K G H v .none) : v = .non := by
  rcases h with h | ⟨p, vs, ds', rfl, e, hp, ha⟩
  · cases h; rfl
  · cases e
theorem DpT.dp {d : D} (sm : Same G H) (h : DpT K G H v d) : Dt K H v d := by
  rcases h with h | ⟨p, vs, ds', rfl, rfl, hp, ha⟩
  · exact Dt.mono sm _ _ h
  · exact .lst hp (DtAll.mono sm _ _ ha)
theorem RI.ol_inv {ds : List D} (h : RI K mg G H ov (.ol ds) os) : ∃ p vs, ov = some (.ref p) ∧ os = [p] ∧ H p = some (.lst vs) ∧ DtAll K G vs ds := by
  cases h with
  | bx b => cases b with
    | ol hp ha => exact ⟨_, _, rfl, rfl, hp, ha⟩
theorem RL.mem (h : RL K mg G H L os) (hm : (ov, s) ∈ L) : ∃ o, RI K mg G H ov s o := by
  induction h with
  | nil => cases hm
  | cons ri t ih =>
    rcases List.mem_cons.mp hm with e | hm
    · cases e; exact ⟨_, ri⟩
    · exact ih hm
theorem Rp.view (h : Rp K mg G H L os) (hm : (some v, r) ∈ L) (hz : ∀ it ∈ σ.zip env, it ∈ L) (hv : VwOk σ v r) {d : D} (e : view env r = some d) : DpT K G H v d := by
  cases r with
  | no => cases e
  | sh d' =>
    cases e
    obtain ⟨v', e', q⟩ := h.shOf hm
    cases e'
    exact .inl q
  | ol ds =>
    cases e
    obtain ⟨o, q⟩ := h.rl.mem hm
    obtain ⟨p, vs, e', _, hp, ha⟩ := q.ol_inv
    cases e'
    exact .inr ⟨p, vs, ds, rfl, rfl, hp, ha⟩
  | od _ => cases e
  | td _ => cases e
  | tt _ _ => cases e
  | oi _ _ => cases e
  | sc _ => cases e
  | vw i =>
    have e1 := hv i rfl
    have e : (match env[i]? with | some (Sl.ol ds) => some (PyData.list ds) | _ => Option.none) = some d := e
    split at e
    · rename_i ds e2
      cases e
      obtain ⟨o, q⟩ := h.rl.mem (hz _ (mem_zip e1 e2))
      obtain ⟨p, vs, e', _, hp, ha⟩ := q.ol_inv
      cases e'
      exact .inr ⟨p, vs, ds, rfl, rfl, hp, ha⟩
    · cases e

/-! ### new objects -/
inductive Grow (G H : Hp) : Hp → Hp → Prop
  | refl : Grow G H G H
  | step {G1 H1 : Hp} {p : Addr} {o : HO} : Grow G H G1 H1 → H1 p = Option.none → Grow G H (upd G1 p o) (upd H1 p o)
theorem Grow.trans {G1 H1 G2 H2 : Hp} (a : Grow G H G1 H1) (b : Grow G1 H1 G2 H2) : Grow G H G2 H2 := by
  induction b with
  | refl => exact a
  | step _ hp ih => exact .step ih hp
theorem Rp.grow {G' : Hp} (h : Rp K mg G H L os) (g : Grow G H G' H') : Rp K mg G' H' L os := by
  induction g with
  | refl => exact h
  | step _ hp ih => exact ih.still hp
theorem Grow.same {G' : Hp} (sm : Same G H) (g : Grow G H G' H') : Same G G' ∧ Same H H' ∧ Same G' H' := by
  induction g with
  | refl => exact ⟨.refl _, .refl _, sm⟩
  | @step G1 H1 p o _ hp ih =>
    obtain ⟨a, b, c⟩ := ih
    have gp : G1 p = Option.none := c.free hp
    refine ⟨a.trans (sameG gp), b.trans (sameG hp), fun x y e => ?_⟩
    by_cases hx : x = p
    · subst hx; rw [upd_same] at e ⊢; exact e
    · rw [upd_ne hx] at e ⊢; exact c x y e
/-- a pure operation's answer -/
inductive Got (K : PySem.W.Frag) (G H : Hp) : V → Sl → Hp → Prop
  | sh {v : V} {d : D} {G' H' : Hp} : Grow G H G' H' → Dt K G' v d → Got K G H v (.sh d) H'
  | ol {p : Addr} {vs : List V} {ds : List D} {G1 H1 : Hp} : Grow G H G1 H1 → H1 p = Option.none → DtAll K G1 vs ds → Got K G H (.ref p) (.ol ds) (upd H1 p (.lst vs))
theorem Got.now {d : D} (h : Dt K G v d) : Got K G H v (.sh d) H := .sh .refl h
theorem Got.newL {p : Addr} {vs : List V} {ds : List D} (hp : H p = Option.none) (h : DtAll K G vs ds) : Got K G H (.ref p) (.ol ds) (upd H p (.lst vs)) := .ol .refl hp h
theorem Got.newT {p : Addr} {vs : List V} {ds : List D} (sm : Same G H) (hp : H p = Option.none) (h : DtAll K G vs ds) : Got K G H (.ref p) (.sh (.tuple ds)) (upd H p (.tup vs)) :=
  .sh (.step .refl hp) (Dt.tup upd_same (DtAll.mono (sameG (sm.free hp)) _ _ h))
theorem Rp.got (h : Rp K mg G H L os) (g : Got K G H v s H') : Rep K mg H' ((some v, s) :: L) := by
  cases g with
  | sh g d => exact ⟨_, _, (h.grow g).sh d⟩
  | ol g hp d => exact ⟨_, _, (h.grow g).newOl hp d⟩
theorem Got.novw (g : Got K G H v s H') : VwOk σ v s := by
  intro i e
  cases g with
  | sh _ _ => cases e
  | ol _ _ _ => cases e
end

/-! ### the judgements -/
abbrev EvF := Lo → Res (Sl × Lo)
abbrev EvT := Lo → Res (Bool × Lo)
abbrev EvA := Lo → Res (List Sl × Lo)
def SemE (K : PySem.W.Frag) (mg : Str → Option Value) (t : TE) (f : EvF) : Prop :=
  ∀ (σ : L2.St) (H : Hp) (env : Lo) (l : List Item) (r : Sl) (env' : Lo), Hold K mg H σ env l → f env = .ok (r, env') → ∀ Q : VK, (∀ v H', HoldV K mg H' σ env' l v r → Q v H') → t σ H Q
def SemT (K : PySem.W.Frag) (mg : Str → Option Value) (t : TT) (f : EvT) : Prop :=
  ∀ (σ : L2.St) (H : Hp) (env : Lo) (l : List Item) (b : Bool) (env' : Lo), Hold K mg H σ env l → f env = .ok (b, env') → ∀ Q : Bool → Hp → Prop, (∀ H', Hold K mg H' σ env' l → Q b H') → t σ H Q
/-- arguments, from the left -/
structure HoldA (K : PySem.W.Frag) (mg : Str → Option Value) (H : Hp) (σ : L2.St) (env : Lo) (l : List Item) (vs : List V) (rs : List Sl) : Prop where
  len : σ.length = env.length
  rep : Rep K mg H ((vs.map some).zip rs ++ (σ.zip env ++ l))
  alen : vs.length = rs.length
  vw : ∀ (k : Nat) (v : V) (r : Sl), vs[k]? = some v → rs[k]? = some r → VwOk σ v r
def SemA (K : PySem.W.Frag) (mg : Str → Option Value) (t : TA) (f : EvA) : Prop :=
  ∀ (σ : L2.St) (H : Hp) (env : Lo) (l : List Item) (rs : List Sl) (env' : Lo), Hold K mg H σ env l → f env = .ok (rs, env') → ∀ Q : List V → Hp → Prop, (∀ vs H', HoldA K mg H' σ env' l vs rs → Q vs H') → t σ H Q
structure SE (X : Cx) (e : Expr) (f : EvF) : Prop where
  ex : ∃ t, PE X e t ∧ SemE X.K X.mg t f
structure ST (X : Cx) (e : Expr) (f : EvT) : Prop where
  ex : ∃ t, PT X e t ∧ SemT X.K X.mg t f
structure SW (X : Cx) (e : Expr) (f : EvT) : Prop where
  ex : ∃ t, PW X e t ∧ SemT X.K X.mg t f
structure SA (X : Cx) (es : List Expr) (f : EvA) : Prop where
  ex : ∃ t, PA X es t ∧ SemA X.K X.mg t f

/-! ### names and constants -/
def fVar (i : Nat) : EvF := fun env => match env[i]? with
  | some (.sh d) => .ok (.sh d, env)
  | some (.ol _) => .ok (.vw i, env)
  | some (.od _) => .ok (.vw i, env)
  | some (.oi _ _) => .ok (.vw i, env)
  | some (.sc ns) => .ok (.sc ns, env)
  | _ => .bad
theorem sem_var {K : PySem.W.Frag} {mg : Str → Option Value} {i : Nat} : SemE K mg (tVar i) (fVar i) := by
  intro σ H env l r env' h e Q q
  have key : ∀ s, env[i]? = some s → s ≠ .no → ∃ v, σ[i]? = some (some v) ∧ (some v, s) ∈ σ.zip env := fun s e2 hn => by
    obtain ⟨ov, e1⟩ := slot_at h.len e2
    obtain ⟨G, os, rp⟩ := h.rep
    obtain ⟨v, hv⟩ := rp.someOf (List.mem_append_left _ (mem_zip e1 e2)) hn
    subst hv
    exact ⟨v, e1, mem_zip e1 e2⟩
  unfold fVar at e
  split at e
  · rename_i d e2
    cases e
    obtain ⟨v, e1, hm⟩ := key _ e2 (by intro z; cases z)
    refine ⟨v, e1, q v H ⟨h.len, ?_, fun _ z => by cases z⟩⟩
    obtain ⟨G, os, rp⟩ := h.rep
    obtain ⟨v', e', d'⟩ := rp.shOf (List.mem_append_left _ hm)
    cases e'
    exact ⟨G, os, rp.sh d'⟩
  case h_5 =>
    rename_i ns e2
    cases e
    obtain ⟨v, e1, hm⟩ := key _ e2 (by intro z; cases z)
    refine ⟨v, e1, q v H ⟨h.len, ?_, fun _ z => by cases z⟩⟩
    obtain ⟨G, os, rp⟩ := h.rep
    obtain ⟨o, ri⟩ := rp.rl.mem (List.mem_append_left _ hm)
    cases ri with
    | bx b => cases b with
      | sc hs => exact ⟨G, os, rp.push (.bx (.sc hs))⟩
  all_goals first
    | (rename_i e2
       cases e
       obtain ⟨v, e1, hm⟩ := key _ e2 (by intro z; cases z)
       refine ⟨v, e1, q v H ⟨h.len, ?_, fun j z => by cases z; exact e1⟩⟩
       obtain ⟨G, os, rp⟩ := h.rep
       exact ⟨G, os, rp.push .vw⟩)
    | (cases e)
def fC (d : D) : EvF := fun env => .ok (.sh d, env)
theorem sem_c {K : PySem.W.Frag} {mg : Str → Option Value} {v : V} {d : D} (hd : ∀ G, Dt K G v d) : SemE K mg (tC v) (fC d) := by
  intro σ H env l r env' h e Q q
  cases e
  obtain ⟨G, os, rp⟩ := h.rep
  exact q v H ⟨h.len, ⟨G, os, rp.sh (hd G)⟩, fun _ z => by cases z⟩
section
variable {X : Cx} {pos : Pos}
theorem se_v (i : Nat) {x : Str} (hN : X.N[i]? = some x := by rfl) (hv : Vis X.env.scope x := by first | exact Or.inl rfl | exact Or.inr (Or.inl rfl) | exact Or.inr (Or.inr rfl)) (hd : (x == ("__debug__" : Str)) = false := by decide)
    (hcd : (x == ("__classdict__" : Str)) = false := by decide) : SE X (.Name x pos) (fVar i) := ⟨_, pe_var hN hv hd hcd, sem_var⟩
theorem se_int {i j} : SE X (.Constant (.int i) j pos) (fC (.int i)) := ⟨_, pe_int, sem_c fun _ => .int i⟩
theorem se_bl {b j} : SE X (.Constant (.bool b) j pos) (fC (.bool b)) := ⟨_, pe_bl, sem_c fun _ => .bl b⟩
theorem se_non {j} : SE X (.Constant .none j pos) (fC .none) := ⟨_, pe_non, sem_c fun _ => .non⟩
theorem se_str {x j} : SE X (.Constant (.str x) j pos) (fC (.str x)) := ⟨_, pe_str, sem_c fun _ => .str x⟩
end

/-! ### operations by values -/
def SemOp (K : PySem.W.Frag) (r : R2) (op : D → D → Option Sl) : Prop :=
  ∀ (G H : Hp) (x y : V) (dx dy : D) (s : Sl) (Q : VK), Same G H → DpT K G H x dx → DpT K G H y dy → op dx dy = some s → (∀ v H', Got K G H v s H' → Q v H') → r x y H Q
def fOp (op : D → D → Option Sl) (fa fb : EvF) : EvF := fun env => do
  let (ra, e1) ← fa env
  let (rb, e2) ← fb e1
  let a ← Res.ofO (view e2 ra)
  let b ← Res.ofO (view e2 rb)
  let s ← Res.ofO (op a b)
  .ok (s, e2)
theorem sem_op {K : PySem.W.Frag} {mg : Str → Option Value} {r : R2} {op : D → D → Option Sl} {ta tb : TE} {fa fb : EvF} (ho : SemOp K r op) (ha : SemE K mg ta fa) (hb : SemE K mg tb fb) : SemE K mg (tOp r ta tb) (fOp op fa fb) := by
  intro σ H env l s env' h e Q q
  unfold fOp at e
  obtain ⟨⟨ra, e1⟩, ea, e⟩ := Res.bind_ok e
  obtain ⟨⟨rb, e2⟩, eb, e⟩ := Res.bind_ok e
  obtain ⟨a, va, e⟩ := Res.bind_ok e
  obtain ⟨b, vb, e⟩ := Res.bind_ok e
  obtain ⟨s', es, e⟩ := Res.bind_ok e
  cases e
  have va := Res.ofO_ok va
  have vb := Res.ofO_ok vb
  have es := Res.ofO_ok es
  refine ha σ H env l ra e1 h ea _ fun x H1 h1 => ?_
  refine hb σ H1 e1 _ rb _ h1.hold eb _ fun y H2 h2 => ?_
  obtain ⟨G, os, rp⟩ := h2.rep
  have dx : DpT K G H2 x a := rp.view (σ := σ) (List.mem_cons_of_mem _ (List.mem_append_right _ List.mem_cons_self)) (fun it hi => List.mem_cons_of_mem _ (List.mem_append_left _ hi)) h1.vw va
  have dy : DpT K G H2 y b := rp.view (σ := σ) List.mem_cons_self (fun it hi => List.mem_cons_of_mem _ (List.mem_append_left _ hi)) h2.vw vb
  refine ho G H2 x y a b s Q rp.same dx dy es fun v H3 g => q v H3 ⟨h2.len, ?_, g.novw⟩
  have h3 := h2.drop.more
  have : Rep K mg H3 ((some v, s) :: ((some y, rb) :: (σ.zip env' ++ (some x, ra) :: l))) := rp.got g
  have p : ((some v, s) :: ((some y, rb) :: (σ.zip env' ++ (some x, ra) :: l))).Perm ((some y, rb) :: (some x, ra) :: (some v, s) :: (σ.zip env' ++ l)) := by
    refine (List.Perm.swap _ _ _).trans (List.Perm.cons _ ?_)
    exact ((List.perm_middle (l₁ := σ.zip env')).cons _).trans (.swap _ _ _)
  exact (this.perm p).tail.tail
theorem SemOp.or {K : PySem.W.Frag} {r r' : R2} {op op' : D → D → Option Sl} (h : SemOp K r op) (h' : SemOp K r' op') : SemOp K (fun x y H Q => r x y H Q ∨ r' x y H Q) (fun a b => (op a b).orElse fun _ => op' a b) := by
  intro G H x y dx dy s Q sm a b e q
  have e : ((op dx dy).orElse fun _ => op' dx dy) = some s := e
  cases e1 : op dx dy with
  | some s' =>
    rw [e1] at e; cases e
    exact .inl (h G H x y dx dy s Q sm a b e1 q)
  | none =>
    rw [e1] at e
    exact .inr (h' G H x y dx dy s Q sm a b e q)
/-- one operand -/
def fOp1 (op : D → Option Sl) (fa : EvF) : EvF := fun env => do
  let (ra, e1) ← fa env
  let a ← Res.ofO (view e1 ra)
  let s ← Res.ofO (op a)
  .ok (s, e1)
/-- by values, one operand -/
def SemU (K : PySem.W.Frag) (r : V → Hp → VK → Prop) (op : D → Option Sl) : Prop :=
  ∀ (G H : Hp) (x : V) (dx : D) (s : Sl) (Q : VK), Same G H → DpT K G H x dx → op dx = some s → (∀ v H', Got K G H v s H' → Q v H') → r x H Q
theorem sem_un {K : PySem.W.Frag} {mg : Str → Option Value} {r : V → Hp → VK → Prop} {op : D → Option Sl} {ta : TE} {fa : EvF} (ho : SemU K r op) (ha : SemE K mg ta fa) : SemE K mg (fun σ H Q => ta σ H fun x H1 => r x H1 Q) (fOp1 op fa) := by
  intro σ H env l s env' h e Q q
  unfold fOp1 at e
  obtain ⟨⟨ra, e1⟩, ea, e⟩ := Res.bind_ok e
  obtain ⟨a, va, e⟩ := Res.bind_ok e
  obtain ⟨s', es, e⟩ := Res.bind_ok e
  cases e
  have va := Res.ofO_ok va
  have es := Res.ofO_ok es
  refine ha σ H env l ra _ h ea _ fun x H1 h1 => ?_
  obtain ⟨G, os, rp⟩ := h1.rep
  refine ho G H1 x a s Q rp.same (rp.view (σ := σ) List.mem_cons_self (fun it hi => List.mem_cons_of_mem _ (List.mem_append_left _ hi)) h1.vw va) es fun v H3 g => q v H3 ⟨h1.len, ?_, g.novw⟩
  exact ((rp.got g).perm (.swap _ _ _)).tail

/-! ### arguments -/
def fNil : EvA := fun env => .ok ([], env)
def fCons (fa : EvF) (fr : EvA) : EvA := fun env => do
  let (r, e1) ← fa env
  let (rs, e2) ← fr e1
  .ok (r :: rs, e2)
theorem sem_nil {K : PySem.W.Frag} {mg : Str → Option Value} : SemA K mg tNil fNil := by
  intro σ H env l rs env' h e Q q
  cases e
  exact q [] H ⟨h.len, h.rep, rfl, fun k v r e => by simp at e⟩
theorem sem_cons {K : PySem.W.Frag} {mg : Str → Option Value} {ta : TE} {tr : TA} {fa : EvF} {fr : EvA} (ha : SemE K mg ta fa) (hr : SemA K mg tr fr) : SemA K mg (tCons ta tr) (fCons fa fr) := by
  intro σ H env l rs env' h e Q q
  unfold fCons at e
  obtain ⟨⟨ra, e1⟩, ea, e⟩ := Res.bind_ok e
  obtain ⟨⟨rb, e2⟩, eb, e⟩ := Res.bind_ok e
  cases e
  refine ha σ H env l ra e1 h ea _ fun x H1 h1 => ?_
  refine hr σ H1 e1 _ rb _ h1.hold eb _ fun ys H2 h2 => q (x :: ys) H2 ⟨h2.len, ?_, by simp [h2.alen], fun k v r e1 e2 => ?_⟩
  · rw [List.map_cons, List.zip_cons_cons, List.cons_append]
    refine h2.rep.perm ?_
    rw [← List.append_assoc, ← List.append_assoc]
    exact List.perm_middle
  · cases k with
    | zero => simp at e1 e2; subst e1; subst e2; exact h1.vw
    | succ k => exact h2.vw k v r (by simpa using e1) (by simpa using e2)
section
variable {X : Cx}
theorem sa_nil : SA X [] fNil := ⟨_, pa_nil, sem_nil⟩
theorem sa_cons {e : Expr} {es : List Expr} {fa : EvF} {fr : EvA} (ha : SE X e fa) (hr : SA X es fr) (hs : starEach (e :: es) X.env = (false, eval e X.env) :: starEach es X.env := by rfl) : SA X (e :: es) (fCons fa fr) := by
  obtain ⟨t, p, s⟩ := ha.ex
  obtain ⟨t', p', s'⟩ := hr.ex
  exact ⟨_, pa_cons p p' hs, sem_cons s s'⟩
end
end FL

/-! FL3: operators, comparisons, tests, subscripts, displays, calls of built-ins -/
namespace FL
open PySem PySem.Spec PyProof.Rows L2

theorem sizeL {n : Nat} (h : n ≤ 16777216) : n ≤ sizeLine := by rw [sizeLine_eq]; exact h
theorem sizeL' {n : Nat} (h : n < 16777216) : n < sizeLine := by rw [sizeLine_eq]; exact h
section
variable {K : PySem.W.Frag} {G H : Hp}
theorem Got.int {i : Int} : Got K G H (.int i) (.sh (.int i)) H := .now (.int i)
theorem Got.bl {b : Bool} : Got K G H (.bl b) (.sh (.bool b)) H := .now (.bl b)
theorem Got.str {x : Str} : Got K G H (.str x) (.sh (.str x)) H := .now (.str x)
end

/-! ### + - * // % ** -/
def addD : D → D → Option Sl
  | .int i, .int j => some (.sh (.int (i + j)))
  | .str x, .str y => if x.length + y.length ≤ 16777216 then some (.sh (.str (x ++ y))) else none
  | .list a, .list b => if a.length + b.length ≤ 16777216 then some (.ol (a ++ b)) else none
  | .tuple a, .tuple b => if a.length + b.length ≤ 16777216 then some (.sh (.tuple (a ++ b))) else none
  | _, _ => none
def subD : D → D → Option Sl
  | .int i, .int j => some (.sh (.int (i - j)))
  | _, _ => none
def mulOk (i j : Int) : Bool := !(decide (Builtin.Int.intBits i > shortFactorBits) && decide (Builtin.Int.intBits j > shortFactorBits) && Builtin.Int.intTooBig (Builtin.Int.intBits i + Builtin.Int.intBits j))
theorem mulOk_iff {i j : Int} : mulOk i j = true ↔ IntMulOk i j := by
  unfold mulOk IntMulOk
  cases (decide (Builtin.Int.intBits i > shortFactorBits) && decide (Builtin.Int.intBits j > shortFactorBits) && Builtin.Int.intTooBig (Builtin.Int.intBits i + Builtin.Int.intBits j)) <;> simp
theorem mulOk_log {i j : Int} (h : i.natAbs.log2 + j.natAbs.log2 < 1000000) : mulOk i j = true := mulOk_iff.mpr (CMulW.ok h)
theorem mulOk_left {i j : Int} (h1 : -(2 ^ 64) < i) (h2 : i < 2 ^ 64) : mulOk i j = true := mulOk_iff.mpr (.of_left (intBits_le_64 h1 h2))
theorem mulOk_right {i j : Int} (h1 : -(2 ^ 64) < j) (h2 : j < 2 ^ 64) : mulOk i j = true := mulOk_iff.mpr (.of_right (intBits_le_64 h1 h2))
def mulD : D → D → Option Sl
  | .int i, .int j => if mulOk i j = true then some (.sh (.int (i * j))) else none
  | .list a, .int k => if -(2 ^ 63) ≤ k ∧ k < 2 ^ 63 ∧ a.length * k.toNat ≤ 16777216 then some (.ol (List.replicate k.toNat a).flatten) else none
  | .tuple a, .int k => if a ≠ [] ∧ 2 ≤ k ∧ k ≤ 1000 ∧ a.length ≤ 1000 then some (.sh (.tuple (List.replicate k.toNat a).flatten)) else none
  | _, _ => none
def divOk (i j : Int) : Bool := decide (j ≠ 0) && !(Builtin.divisionGoesByPylong i j)
def divD : D → D → Option Sl
  | .int i, .int j => if divOk i j = true then some (.sh (.int (i.fdiv j))) else none
  | _, _ => none
def modD : D → D → Option Sl
  | .int i, .int j => if 0 < j then some (.sh (.int (i % j))) else none
  | _, _ => none
def powD : D → D → Option Sl
  | .int i, .int j => if 0 ≤ j ∧ j ≤ 1000000 ∧ i.natAbs < 2 ^ 64 then some (.sh (.int (i ^ j.toNat))) else none
  | _, _ => none
def rAddAll (K : PySem.W.Frag) : R2 := fun x y H Q => (∃ i j, x = .int i ∧ y = .int j ∧ Q (.int (i + j)) H) ∨
  (∃ i j, x = .str i ∧ y = .str j ∧ i.length + j.length ≤ sizeLine ∧ Q (.str (i ++ j)) H) ∨ rCat x y H Q ∨ rCatA K x y H Q
theorem or_add {X : Cx} : OpR X (binaryOp .Add) (rAddAll X.K) := op_add.or (op_add_str.or (op_cat.or op_catA))
theorem so_add {K : PySem.W.Frag} : SemOp K (rAddAll K) addD := by
  intro G H x y dx dy s Q sm a b e q
  cases dx <;> cases dy <;> first | (cases e; done) | skip
  case int.int i j =>
    cases e
    exact .inl ⟨i, j, a.int, b.int, q _ _ .int⟩
  case str.str i j =>
    by_cases h : i.length + j.length ≤ 16777216
    · rw [show addD (.str i) (.str j) = if i.length + j.length ≤ 16777216 then some (.sh (.str (i ++ j))) else none from rfl, if_pos h] at e
      cases e
      exact .inr (.inl ⟨i, j, a.str, b.str, sizeL h, q _ _ .str⟩)
    · rw [show addD (.str i) (.str j) = if i.length + j.length ≤ 16777216 then some (.sh (.str (i ++ j))) else none from rfl, if_neg h] at e
      cases e
  case list.list i j =>
    by_cases h : i.length + j.length ≤ 16777216
    · rw [show addD (.list i) (.list j) = if i.length + j.length ≤ 16777216 then some (.ol (i ++ j)) else none from rfl, if_pos h] at e
      cases e
      obtain ⟨p, vs, rfl, hp, hv⟩ := a.list sm
      obtain ⟨p', vs', rfl, hp', hv'⟩ := b.list sm
      exact .inr (.inr (.inl ⟨p, p', vs, vs', rfl, rfl, hp, hp', sizeL (by rw [hv.length, hv'.length]; exact h), fun l hl => q _ _ (.newL hl (hv.append hv'))⟩))
    · rw [show addD (.list i) (.list j) = if i.length + j.length ≤ 16777216 then some (.ol (i ++ j)) else none from rfl, if_neg h] at e
      cases e
  case tuple.tuple i j =>
    by_cases h : i.length + j.length ≤ 16777216
    · rw [show addD (.tuple i) (.tuple j) = if i.length + j.length ≤ 16777216 then some (.sh (.tuple (i ++ j))) else none from rfl, if_pos h] at e
      cases e
      have a0 := a
      have b0 := b
      obtain ⟨p, vs, rfl, hp, hv⟩ := a.tuple sm
      obtain ⟨p', vs', rfl, hp', hv'⟩ := b.tuple sm
      refine .inr (.inr (.inr ⟨p, p', vs, vs', rfl, rfl, hp, hp', sizeL (by rw [hv.length, hv'.length]; exact h), fun z => ?_, fun _ z => ?_, fun _ _ l hl => q _ _ (.newT sm hl (hv.append hv'))⟩))
      · subst z; cases hv
        rcases b0 with b0 | ⟨_, _, _, _, z, _⟩
        · exact q _ _ (.now (by simpa using b0))
        · cases z
      · subst z; cases hv'
        rcases a0 with a0 | ⟨_, _, _, _, z, _⟩
        · exact q _ _ (.now (by simpa using a0))
        · cases z
    · rw [show addD (.tuple i) (.tuple j) = if i.length + j.length ≤ 16777216 then some (.sh (.tuple (i ++ j))) else none from rfl, if_neg h] at e
      cases e
def rSubI : R2 := rI0 fun i j => .int (i - j)
theorem so_sub {K : PySem.W.Frag} : SemOp K rSubI subD := by
  intro G H x y dx dy s Q sm a b e q
  cases dx <;> cases dy <;> first | (cases e; done) | skip
  cases e
  exact ⟨_, _, a.int, b.int, q _ _ .int⟩
def rMulAll (K : PySem.W.Frag) : R2 := fun x y H Q => rI (fun i j => mulOk i j = true) (fun i j => .int (i * j)) x y H Q ∨ rRep x y H Q ∨ rRepT K x y H Q
theorem op_mulM {X : Cx} : OpR X (binaryOp .Mult) (rI (fun i j => mulOk i j = true) fun i j => .int (i * j)) := opI fun _ _ _ _ _ _ _ hc q => mul_int q (mulOk_iff.mp hc)
theorem or_mul {X : Cx} : OpR X (binaryOp .Mult) (rMulAll X.K) := op_mulM.or (op_rep.or op_repT)
theorem so_mul {K : PySem.W.Frag} : SemOp K (rMulAll K) mulD := by
  intro G H x y dx dy s Q sm a b e q
  cases dx <;> cases dy <;> first | (cases e; done) | skip
  case int.int i j =>
    by_cases h : mulOk i j = true
    · rw [show mulD (.int i) (.int j) = if mulOk i j = true then some (.sh (.int (i * j))) else none from rfl, if_pos h] at e
      cases e
      exact .inl ⟨i, j, a.int, b.int, h, q _ _ .int⟩
    · rw [show mulD (.int i) (.int j) = if mulOk i j = true then some (.sh (.int (i * j))) else none from rfl, if_neg h] at e
      cases e
  case list.int i k =>
    by_cases h : -(2 ^ 63) ≤ k ∧ k < 2 ^ 63 ∧ i.length * k.toNat ≤ 16777216
    · rw [show mulD (.list i) (.int k) = if -(2 ^ 63) ≤ k ∧ k < 2 ^ 63 ∧ i.length * k.toNat ≤ 16777216 then some (.ol (List.replicate k.toNat i).flatten) else none from rfl, if_pos h] at e
      cases e
      obtain ⟨p, vs, rfl, hp, hv⟩ := a.list sm
      exact .inr (.inl ⟨p, k, vs, rfl, b.int, hp, h.1, h.2.1, sizeL (by rw [hv.length]; exact h.2.2), fun l hl => q _ _ (.newL hl (hv.rep _))⟩)
    · rw [show mulD (.list i) (.int k) = if -(2 ^ 63) ≤ k ∧ k < 2 ^ 63 ∧ i.length * k.toNat ≤ 16777216 then some (.ol (List.replicate k.toNat i).flatten) else none from rfl, if_neg h] at e
      cases e
  case tuple.int i k =>
    by_cases h : i ≠ [] ∧ 2 ≤ k ∧ k ≤ 1000 ∧ i.length ≤ 1000
    · rw [show mulD (.tuple i) (.int k) = if i ≠ [] ∧ 2 ≤ k ∧ k ≤ 1000 ∧ i.length ≤ 1000 then some (.sh (.tuple (List.replicate k.toNat i).flatten)) else none from rfl, if_pos h] at e
      cases e
      obtain ⟨p, vs, rfl, hp, hv⟩ := a.tuple sm
      refine .inr (.inr ⟨p, k, vs, rfl, b.int, hp, fun z => ?_, h.2.1, h.2.2.1, by rw [hv.length]; exact h.2.2.2, fun l hl => q _ _ (.newT sm hl (hv.rep _))⟩)
      subst z; cases hv; exact h.1 rfl
    · rw [show mulD (.tuple i) (.int k) = if i ≠ [] ∧ 2 ≤ k ∧ k ≤ 1000 ∧ i.length ≤ 1000 then some (.sh (.tuple (List.replicate k.toNat i).flatten)) else none from rfl, if_neg h] at e
      cases e
def rDivI : R2 := rI (fun i j => divOk i j = true) fun i j => .int (i.fdiv j)
theorem or_div {X : Cx} : OpR X (binaryOp .FloorDiv) rDivI := opI fun i j _ _ _ _ _ hc q => by
  have h : decide (j ≠ 0) = true ∧ (!(Builtin.divisionGoesByPylong i j)) = true := (Bool.and_eq_true_iff.mp hc)
  exact floordiv_int (of_decide_eq_true h.1) q (.inl (by simpa using h.2))
theorem so_div {K : PySem.W.Frag} : SemOp K rDivI divD := by
  intro G H x y dx dy s Q sm a b e q
  cases dx <;> cases dy <;> first | (cases e; done) | skip
  case int.int i j =>
    by_cases h : divOk i j = true
    · rw [show divD (.int i) (.int j) = if divOk i j = true then some (.sh (.int (i.fdiv j))) else none from rfl, if_pos h] at e
      cases e
      exact ⟨i, j, a.int, b.int, h, q _ _ .int⟩
    · rw [show divD (.int i) (.int j) = if divOk i j = true then some (.sh (.int (i.fdiv j))) else none from rfl, if_neg h] at e
      cases e
def rModI : R2 := rI (fun _ j => 0 < j) fun i j => .int (i % j)
theorem so_mod {K : PySem.W.Frag} : SemOp K rModI modD := by
  intro G H x y dx dy s Q sm a b e q
  cases dx <;> cases dy <;> first | (cases e; done) | skip
  case int.int i j =>
    by_cases h : 0 < j
    · rw [show modD (.int i) (.int j) = if 0 < j then some (.sh (.int (i % j))) else none from rfl, if_pos h] at e
      cases e
      exact ⟨i, j, a.int, b.int, h, q _ _ .int⟩
    · rw [show modD (.int i) (.int j) = if 0 < j then some (.sh (.int (i % j))) else none from rfl, if_neg h] at e
      cases e
def rPowI : R2 := rI CPow fun i j => .int (i ^ j.toNat)
theorem so_pow {K : PySem.W.Frag} : SemOp K rPowI powD := by
  intro G H x y dx dy s Q sm a b e q
  cases dx <;> cases dy <;> first | (cases e; done) | skip
  case int.int i j =>
    by_cases h : 0 ≤ j ∧ j ≤ 1000000 ∧ i.natAbs < 2 ^ 64
    · rw [show powD (.int i) (.int j) = if 0 ≤ j ∧ j ≤ 1000000 ∧ i.natAbs < 2 ^ 64 then some (.sh (.int (i ^ j.toNat))) else none from rfl, if_pos h] at e
      cases e
      exact ⟨i, j, a.int, b.int, h, q _ _ .int⟩
    · rw [show powD (.int i) (.int j) = if 0 ≤ j ∧ j ≤ 1000000 ∧ i.natAbs < 2 ^ 64 then some (.sh (.int (i ^ j.toNat))) else none from rfl, if_neg h] at e
      cases e
section
variable {X : Cx} {a b c : Expr} {fa fb fc : EvF} {pos : Pos}
theorem se_bin {op : Operator} {r : R2} {o : D → D → Option Sl} (ho : OpR X (binaryOp op) r) (so : SemOp X.K r o) (ha : SE X a fa) (hb : SE X b fb) : SE X (.BinOp a op b pos) (fOp o fa fb) := by
  obtain ⟨t, p, s⟩ := ha.ex
  obtain ⟨t', p', s'⟩ := hb.ex
  exact ⟨_, pe_op ho p p', sem_op so s s'⟩
theorem se_add (ha : SE X a fa) (hb : SE X b fb) : SE X (.BinOp a .Add b pos) (fOp addD fa fb) := se_bin or_add so_add ha hb
theorem se_sub (ha : SE X a fa) (hb : SE X b fb) : SE X (.BinOp a .Sub b pos) (fOp subD fa fb) := se_bin op_sub so_sub ha hb
theorem se_mul (ha : SE X a fa) (hb : SE X b fb) : SE X (.BinOp a .Mult b pos) (fOp mulD fa fb) := se_bin or_mul so_mul ha hb
theorem se_div (ha : SE X a fa) (hb : SE X b fb) : SE X (.BinOp a .FloorDiv b pos) (fOp divD fa fb) := se_bin or_div so_div ha hb
theorem se_mod (ha : SE X a fa) (hb : SE X b fb) : SE X (.BinOp a .Mod b pos) (fOp modD fa fb) := se_bin op_mod so_mod ha hb
theorem se_pow (ha : SE X a fa) (hb : SE X b fb) : SE X (.BinOp a .Pow b pos) (fOp powD fa fb) := se_bin op_pow so_pow ha hb
def negD : D → Option Sl
  | .int i => some (.sh (.int (-i)))
  | _ => none
theorem se_neg (ha : SE X a fa) : SE X (.UnaryOp .USub a pos) (fOp1 negD fa) := by
  obtain ⟨t, p, s⟩ := ha.ex
  refine ⟨_, pe_un un_neg p, sem_un (r := rU fun i => .int (-i)) (fun G H x dx s Q sm d e q => ?_) s⟩
  cases dx <;> first | (cases e; done) | skip
  cases e
  exact ⟨_, d.int, q _ _ .int⟩

/-! ### comparisons -/
def shapedD (d : D) : Bool := SeqAt.shaped d
def eqD (a b : D) : Option Sl := if shapedD a = true ∧ shapedD b = true then some (.sh (.bool (PyData.eqv a b))) else none
def neD (a b : D) : Option Sl := if shapedD a = true ∧ shapedD b = true then some (.sh (.bool (!PyData.eqv a b))) else none
def cmpD (p : Int → Int → Bool) : D → D → Option Sl
  | .int i, .int j => some (.sh (.bool (p i j)))
  | _, _ => none
abbrev ltD := cmpD fun i j => decide (i < j)
abbrev leD := cmpD fun i j => decide (i ≤ j)
abbrev gtD := cmpD fun i j => decide (j < i)
abbrev geD := cmpD fun i j => decide (j ≤ i)
def isNone : D → Bool
  | .none => true
  | _ => false
def isND (a b : D) : Option Sl := if isNone b = true then some (.sh (.bool (isNone a))) else none
def notND (a b : D) : Option Sl := if isNone b = true then some (.sh (.bool (!isNone a))) else none
theorem so_eq {K : PySem.W.Frag} : SemOp K (rEqD K) eqD := by
  intro G H x y dx dy s Q sm a b e q
  unfold eqD at e
  split at e
  · rename_i h
    cases e
    exact ⟨dx, dy, Dt.deep _ _ (a.dp sm), Dt.deep _ _ (b.dp sm), h.1, h.2, q _ _ .bl⟩
  · cases e
theorem so_ne {K : PySem.W.Frag} : SemOp K (rNeD K) neD := by
  intro G H x y dx dy s Q sm a b e q
  unfold neD at e
  split at e
  · rename_i h
    cases e
    exact ⟨dx, dy, Dt.deep _ _ (a.dp sm), Dt.deep _ _ (b.dp sm), h.1, h.2, q _ _ .bl⟩
  · cases e
theorem so_cmp {K : PySem.W.Frag} {p : Int → Int → Bool} : SemOp K (rI0 fun i j => .bl (p i j)) (cmpD p) := by
  intro G H x y dx dy s Q sm a b e q
  cases dx <;> cases dy <;> first | (cases e; done) | skip
  cases e
  exact ⟨_, _, a.int, b.int, q _ _ .bl⟩
theorem isNone_eq {K : PySem.W.Frag} {G H : Hp} {x : V} {d : D} (h : DpT K G H x d) : decide (x = .non) = isNone d := by
  rcases h with h | ⟨_, _, _, rfl, rfl, _⟩
  · cases h <;> rfl
  · rfl
theorem so_isN {K : PySem.W.Frag} : SemOp K (fun x y H Q => y = .non ∧ Q (.bl (decide (x = .non))) H) isND := by
  intro G H x y dx dy s Q sm a b e q
  cases dy <;> first | (cases e; done) | skip
  cases e
  exact ⟨b.none, by rw [isNone_eq a]; exact q _ _ .bl⟩
theorem so_notN {K : PySem.W.Frag} : SemOp K (fun x y H Q => y = .non ∧ Q (.bl (!decide (x = .non))) H) notND := by
  intro G H x y dx dy s Q sm a b e q
  cases dy <;> first | (cases e; done) | skip
  cases e
  exact ⟨b.none, by rw [isNone_eq a]; exact q _ _ .bl⟩
/-- in a list or tuple of flat things -/
def flatD : D → Bool
  | .none => true
  | .bool _ => true
  | .int _ => true
  | .str _ => true
  | _ => false
def inL (a : D) (ds : List D) : Bool := ds.any fun z => PyData.eqv z a
def inD (neg : Bool) (a : D) : D → Option Sl
  | .list ds => if flatD a = true ∧ ds.all flatD = true then some (.sh (.bool (if neg then !inL a ds else inL a ds))) else none
  | .tuple ds => if flatD a = true ∧ ds.all flatD = true then some (.sh (.bool (if neg then !inL a ds else inL a ds))) else none
  | _ => none
theorem flat_V {K : PySem.W.Frag} {G : Hp} {x : V} {d : D} (h : Dt K G x d) (f : flatD d = true) : flatV x = true := by
  cases h <;> first | rfl | (cases f)
theorem eq_V {K : PySem.W.Frag} {G : Hp} {x y : V} {d e : D} (h : Dt K G x d) (h' : Dt K G y e) (f : flatD d = true) (f' : flatD e = true) : eqV y x = PyData.eqv e d := by
  cases h <;> first | (cases f; done) | skip
  all_goals (cases h' <;> first | (cases f'; done) | rfl | (simp [eqV, PyData.eqv]; done) | skip)
theorem all_flat {K : PySem.W.Frag} {G : Hp} : ∀ {vs : List V} {ds : List D}, DtAll K G vs ds → ds.all flatD = true → vs.all flatV = true
  | _, _, .nil, _ => rfl
  | _, _, .cons r t, h => by
    rw [List.all_cons, Bool.and_eq_true] at h ⊢
    exact ⟨flat_V r h.1, all_flat t h.2⟩
theorem in_eq {K : PySem.W.Frag} {G : Hp} {x : V} {d : D} (h : Dt K G x d) (f : flatD d = true) : ∀ {vs : List V} {ds : List D}, DtAll K G vs ds → ds.all flatD = true → inV x vs = inL d ds
  | _, _, .nil, _ => rfl
  | _, _, .cons r t, h' => by
    rw [List.all_cons, Bool.and_eq_true] at h'
    unfold inV inL
    rw [List.any_cons, List.any_cons, eq_V h r f h'.1]
    have := in_eq h f t h'.2
    unfold inV inL at this
    rw [this]
theorem flat_sh {K : PySem.W.Frag} {G H : Hp} {x : V} {d : D} (h : DpT K G H x d) (f : flatD d = true) : Dt K G x d := by
  rcases h with h | ⟨_, _, _, _, rfl, _⟩
  · exact h
  · cases f
theorem so_in {K : PySem.W.Frag} {neg : Bool} : SemOp K (rIn K neg) (inD neg) := by
  intro G H x y dx dy s Q sm a b e q
  cases dy <;> first | (cases e; done) | skip
  case list ds =>
    rw [show inD neg dx (.list ds) = if flatD dx = true ∧ ds.all flatD = true then some (.sh (.bool (if neg then !inL dx ds else inL dx ds))) else none from rfl] at e
    split at e
    · rename_i h
      cases e
      obtain ⟨p, vs, rfl, hp, hv⟩ := b.list sm
      have ad := flat_sh a h.1
      refine ⟨p, vs, rfl, .inl (.of hp), flat_V ad h.1, all_flat hv h.2, ?_⟩
      rw [in_eq ad h.1 hv h.2]
      exact q _ _ .bl
    · cases e
  case tuple ds =>
    rw [show inD neg dx (.tuple ds) = if flatD dx = true ∧ ds.all flatD = true then some (.sh (.bool (if neg then !inL dx ds else inL dx ds))) else none from rfl] at e
    split at e
    · rename_i h
      cases e
      obtain ⟨p, vs, rfl, hp, hv⟩ := b.tuple sm
      have ad := flat_sh a h.1
      refine ⟨p, vs, rfl, .inr hp, flat_V ad h.1, all_flat hv h.2, ?_⟩
      rw [in_eq ad h.1 hv h.2]
      exact q _ _ .bl
    · cases e
theorem se_cmp {op : CmpOp} {r : R2} {o : D → D → Option Sl} (ho : OpR X (compareOp op) r) (so : SemOp X.K r o) (ha : SE X a fa) (hb : SE X b fb) (hm : behindInMarks op b = false) : SE X (.Compare a [op] [b] pos) (fOp o fa fb) := by
  obtain ⟨t, p, s⟩ := ha.ex
  obtain ⟨t', p', s'⟩ := hb.ex
  exact ⟨_, pe_cmpR ho p p' hm, sem_op so s s'⟩

/-! ### tests -/
def fTst (f : EvF) : EvT := fun env => do
  let (r, e1) ← f env
  match r with
  | .sh (.bool b) => .ok (b, e1)
  | _ => .bad
theorem sem_tst {K : PySem.W.Frag} {mg : Str → Option Value} {t : TE} {f : EvF} (h : SemE K mg t f) : SemT K mg (tTest t) (fTst f) := by
  intro σ H env l b env' h1 e Q q
  unfold fTst at e
  obtain ⟨⟨r, e1⟩, ea, e⟩ := Res.bind_ok e
  refine h σ H env l r e1 h1 ea _ fun v H1 h2 => ?_
  dsimp only at e
  split at e
  · rename_i b'
    cases e
    obtain ⟨G, os, rp⟩ := h2.rep
    obtain ⟨v', e', d⟩ := rp.shOf List.mem_cons_self
    cases e'
    cases d
    exact ⟨_, rfl, q H1 h2.drop⟩
  · cases e
theorem st_cmp {op : CmpOp} {r : R2} {o : D → D → Option Sl} (ho : OpR X (compareOp op) r) (so : SemOp X.K r o) (ha : SE X a fa) (hb : SE X b fb) (hm : behindInMarks op b = false) : ST X (.Compare a [op] [b] pos) (fTst (fOp o fa fb)) := by
  obtain ⟨t, p, s⟩ := ha.ex
  obtain ⟨t', p', s'⟩ := hb.ex
  exact ⟨_, pt_cmpR ho p p' hm, sem_tst (sem_op so s s')⟩
/-- an expression whose value is a truth -/
theorem st_val (h : SE X a fa) (he : ∀ whole, isTrue a X.env whole = (do let v ← whole; standAt a.pos; holding [v] (truthy v)) := by intro _; rfl) : ST X a (fTst fa) := by
  obtain ⟨t, p, s⟩ := h.ex
  exact ⟨_, pt_val p he, sem_tst s⟩
def fNotT (f : EvT) : EvT := fun env => do
  let (b, e1) ← f env
  .ok (!b, e1)
def fAndT (f g : EvT) : EvT := fun env => do
  let (b, e1) ← f env
  if b = true then g e1 else .ok (false, e1)
def fOrT (f g : EvT) : EvT := fun env => do
  let (b, e1) ← f env
  if b = true then .ok (true, e1) else g e1
variable {tA tB' : EvT} {rest : List Expr}
theorem st_not (h : ST X a tA) : ST X (.UnaryOp .Not a pos) (fNotT tA) := by
  obtain ⟨t, p, s⟩ := h.ex
  refine ⟨_, pt_not p, ?_⟩
  intro σ H env l b env' h1 e Q q
  obtain ⟨⟨r, e1⟩, ea, e⟩ := Res.bind_ok e
  cases e
  exact s σ H env l r _ h1 ea _ fun H1 h2 => q H1 h2
theorem st_of (h : SW X a tA) : ST X a tA := by
  obtain ⟨t, p, s⟩ := h.ex
  exact ⟨_, p.pt, s⟩
theorem sw_and1 (h : ST X a tA) : SW X (.BoolOp .And [a] pos) tA := by
  obtain ⟨t, p, s⟩ := h.ex
  exact ⟨_, pw_and1 p, s⟩
theorem sw_or1 (h : ST X a tA) : SW X (.BoolOp .Or [a] pos) tA := by
  obtain ⟨t, p, s⟩ := h.ex
  exact ⟨_, pw_or1 p, s⟩
theorem sw_and (h : ST X a tA) (h2 : SW X (.BoolOp .And (b :: rest) pos) tB') : SW X (.BoolOp .And (a :: b :: rest) pos) (fAndT tA tB') := by
  obtain ⟨t, p, s⟩ := h.ex
  obtain ⟨t', p', s'⟩ := h2.ex
  refine ⟨_, pw_and p p', ?_⟩
  intro σ H env l b env' h1 e Q q
  obtain ⟨⟨r, e1⟩, ea, e⟩ := Res.bind_ok e
  refine s σ H env l r _ h1 ea _ fun H1 h2 => ?_
  cases r with
  | true => exact iteT (s' σ H1 e1 l b env' h2 e Q q)
  | false => cases e; exact iteF (q H1 h2)
theorem sw_or (h : ST X a tA) (h2 : SW X (.BoolOp .Or (b :: rest) pos) tB') : SW X (.BoolOp .Or (a :: b :: rest) pos) (fOrT tA tB') := by
  obtain ⟨t, p, s⟩ := h.ex
  obtain ⟨t', p', s'⟩ := h2.ex
  refine ⟨_, pw_or p p', ?_⟩
  intro σ H env l b env' h1 e Q q
  obtain ⟨⟨r, e1⟩, ea, e⟩ := Res.bind_ok e
  refine s σ H env l r _ h1 ea _ fun H1 h2 => ?_
  cases r with
  | true => cases e; exact iteT (q H1 h2)
  | false => exact iteF (s' σ H1 e1 l b env' h2 e Q q)
/-! ### .. as values -/
def fAndV (f g : EvF) : EvF := fun env => do
  let (b, e1) ← fTst f env
  if b = true then g e1 else .ok (.sh (.bool false), e1)
def fOrV (f g : EvF) : EvF := fun env => do
  let (b, e1) ← fTst f env
  if b = true then .ok (.sh (.bool true), e1) else g e1
def fNotV (f : EvF) : EvF := fun env => do
  let (b, e1) ← fTst f env
  .ok (.sh (.bool (!b)), e1)
theorem Hold.shV {K : PySem.W.Frag} {mg : Str → Option Value} {H : Hp} {σ : L2.St} {env : Lo} {l : List Item} {v : V} {d : D} (h : Hold K mg H σ env l) (hd : ∀ G, Dt K G v d) : HoldV K mg H σ env l v (.sh d) := by
  obtain ⟨G, os, rp⟩ := h.rep
  exact ⟨h.len, ⟨G, os, rp.sh (hd G)⟩, fun _ z => by cases z⟩
theorem se_one {op} (h : SE X a fa) : SE X (.BoolOp op [a] pos) fa := by
  obtain ⟨t, p, s⟩ := h.ex
  exact ⟨_, pe_one p, s⟩
theorem se_and (h : SE X a fa) (h2 : SE X (.BoolOp .And (b :: rest) pos) fb) : SE X (.BoolOp .And (a :: b :: rest) pos) (fAndV fa fb) := by
  obtain ⟨t, p, s⟩ := h.ex
  obtain ⟨t', p', s'⟩ := h2.ex
  refine ⟨_, pe_and p p', ?_⟩
  intro σ H env l r env' h1 e Q q
  obtain ⟨⟨c, e1⟩, ea, e⟩ := Res.bind_ok e
  refine sem_tst s σ H env l c _ h1 ea (fun c H1 => if c = true then t' σ H1 Q else Q (.bl false) H1) fun H1 h2 => ?_
  cases c with
  | true => exact iteT (s' σ H1 e1 l r env' h2 e Q q)
  | false => cases e; exact iteF (q _ H1 (h2.shV fun _ => .bl _))
theorem se_or (h : SE X a fa) (h2 : SE X (.BoolOp .Or (b :: rest) pos) fb) : SE X (.BoolOp .Or (a :: b :: rest) pos) (fOrV fa fb) := by
  obtain ⟨t, p, s⟩ := h.ex
  obtain ⟨t', p', s'⟩ := h2.ex
  refine ⟨_, pe_or p p', ?_⟩
  intro σ H env l r env' h1 e Q q
  obtain ⟨⟨c, e1⟩, ea, e⟩ := Res.bind_ok e
  refine sem_tst s σ H env l c _ h1 ea (fun c H1 => if c = true then Q (.bl true) H1 else t' σ H1 Q) fun H1 h2 => ?_
  cases c with
  | true => cases e; exact iteT (q _ H1 (h2.shV fun _ => .bl _))
  | false => exact iteF (s' σ H1 e1 l r env' h2 e Q q)
theorem se_not (h : SE X a fa) : SE X (.UnaryOp .Not a pos) (fNotV fa) := by
  obtain ⟨t, p, s⟩ := h.ex
  refine ⟨_, pe_not p, ?_⟩
  intro σ H env l r env' h1 e Q q
  obtain ⟨⟨c, e1⟩, ea, e⟩ := Res.bind_ok e
  cases e
  exact sem_tst s σ H env l c _ h1 ea (fun c H1 => Q (.bl (!c)) H1) fun H1 h2 => q _ H1 (h2.shV fun _ => .bl _)
def fIf (ft : EvT) (fa fb : EvF) : EvF := fun env => do
  let (b, e1) ← ft env
  if b = true then fa e1 else fb e1
theorem se_if (hc : ST X c tA) (h : SE X a fa) (h2 : SE X b fb) : SE X (.IfExp c a b pos) (fIf tA fa fb) := by
  obtain ⟨t0, p0, s0⟩ := hc.ex
  obtain ⟨t, p, s⟩ := h.ex
  obtain ⟨t', p', s'⟩ := h2.ex
  refine ⟨_, pe_ifExp p0 p p', ?_⟩
  intro σ H env l r env' h1 e Q q
  obtain ⟨⟨k, e1⟩, ea, e⟩ := Res.bind_ok e
  refine s0 σ H env l k _ h1 ea _ fun H1 h2 => ?_
  cases k with
  | true => exact iteT (s σ H1 e1 l r env' h2 e Q q)
  | false => exact iteF (s' σ H1 e1 l r env' h2 e Q q)
end
end FL

/-! FL4: subscripts, slices, displays, calls -/
namespace FL
open PySem PySem.Spec PyProof.Rows L2

/-! ### subscripts -/
def ixD : D → D → Option Sl
  | .list ds, .int i => (atI ds i).map .sh
  | .tuple ds, .int i => (atI ds i).map .sh
  | .str x, .int i => if x.length ≤ 16777216 then (atI x.cps.toList i).map fun c => .sh (.str ⟨#[c]⟩) else none
  | _, _ => none
theorem at_all {K : PySem.W.Frag} {G : Hp} {vs : List V} {ds : List D} {i : Int} {d : D} (h : DtAll K G vs ds) (e : atI ds i = some d) : ∃ v, atI vs i = some v ∧ Dt K G v d := by
  unfold atI at e ⊢
  rw [h.length]
  cases q : ixN ds.length i with
  | none => rw [q] at e; cases e
  | some j =>
    rw [q] at e
    obtain ⟨v, e1, e2⟩ := h.get (show ds[j]? = some d from e)
    exact ⟨v, e1, e2⟩
theorem so_ix {K : PySem.W.Frag} : SemOp K (rIx K) ixD := by
  intro G H x y dx dy s Q sm a b e q
  cases dx <;> cases dy <;> first | (cases e; done) | skip
  case list.int ds i =>
    rw [show ixD (.list ds) (.int i) = (atI ds i).map .sh from rfl] at e
    cases ea : atI ds i with
    | none => rw [ea] at e; cases e
    | some d =>
      rw [ea] at e; cases e
      obtain ⟨p, vs, rfl, hp, hv⟩ := a.list sm
      obtain ⟨v, e1, e2⟩ := at_all hv ea
      exact .inl ⟨p, vs, i, v, rfl, b.int, .of hp, e1, q _ _ (.now e2)⟩
  case tuple.int ds i =>
    rw [show ixD (.tuple ds) (.int i) = (atI ds i).map .sh from rfl] at e
    cases ea : atI ds i with
    | none => rw [ea] at e; cases e
    | some d =>
      rw [ea] at e; cases e
      obtain ⟨p, vs, rfl, hp, hv⟩ := a.tuple sm
      obtain ⟨v, e1, e2⟩ := at_all hv ea
      exact .inr (.inl ⟨p, vs, i, v, rfl, b.int, hp, e1, q _ _ (.now e2)⟩)
  case str.int z i =>
    rw [show ixD (.str z) (.int i) = if z.length ≤ 16777216 then (atI z.cps.toList i).map fun c => Sl.sh (.str ⟨#[c]⟩) else none from rfl] at e
    split at e
    · rename_i h
      cases ea : atI z.cps.toList i with
      | none => rw [ea] at e; cases e
      | some c =>
        rw [ea] at e; cases e
        exact .inr (.inr ⟨z, i, c, a.str, b.int, sizeL h, ea, q _ _ .str⟩)
    · cases e
section
variable {X : Cx} {a b c : Expr} {fa fb fc : EvF} {pos : Pos}
theorem se_ix (ha : SE X a fa) (hb : SE X b fb) (hs : PlainIx b := by exact fun _ _ => rfl) : SE X (.Subscript a b pos) (fOp ixD fa fb) := by
  obtain ⟨t, p, s⟩ := ha.ex
  obtain ⟨t', p', s'⟩ := hb.ex
  exact ⟨_, pe_ix ix_seq p p' hs, sem_op so_ix s s'⟩
end

/-! ### slices -/
def cutG {α : Type} (xs : List α) (lo hi : Option Int) : List α := (xs.drop (HT.sIx xs.length 0 lo)).take (HT.sIx xs.length xs.length hi - HT.sIx xs.length 0 lo)
def sliceD : D → Option Int → Option Int → Option Sl
  | .list ds, lo, hi => some (.ol (cutG ds lo hi))
  | .tuple ds, lo, hi => some (.sh (.tuple (cutG ds lo hi)))
  | .str x, lo, hi => if x.length ≤ 16777216 then some (.sh (.str (cutS x lo hi))) else none
  | _, _, _ => none
abbrev EvO := Lo → Res (Option Int × Lo)
def SemO (K : PySem.W.Frag) (mg : Str → Option Value) (t : TO) (f : EvO) : Prop :=
  ∀ (σ : L2.St) (H : Hp) (env : Lo) (l : List Item) (o : Option Int) (env' : Lo), Hold K mg H σ env l → f env = .ok (o, env') → ∀ Q : Option Int → Hp → Prop, (∀ H', Hold K mg H' σ env' l → Q o H') → t σ H Q
structure SO (X : Cx) (e : Option Expr) (f : EvO) : Prop where
  ex : ∃ t, PO X e t ∧ SemO X.K X.mg t f
def fNoPart : EvO := fun env => .ok (none, env)
def fPart (fa : EvF) : EvO := fun env => do
  let (r, e1) ← fa env
  match r with
  | .sh (.int i) => .ok (some i, e1)
  | _ => .bad
section
variable {X : Cx} {a b c : Expr} {fa fb fc : EvF} {pos p2 : Pos} {lo hi : Option Expr} {fl fh : EvO}
theorem so_none : SO X none fNoPart := ⟨_, po_none, fun σ H env l o env' h e Q q => by cases e; exact q H h⟩
theorem so_some (ha : SE X a fa) : SO X (some a) (fPart fa) := by
  obtain ⟨t, p, s⟩ := ha.ex
  refine ⟨_, po_some p, ?_⟩
  intro σ H env l o env' h e Q q
  unfold fPart at e
  obtain ⟨⟨r, e1⟩, ea, e⟩ := Res.bind_ok e
  refine s σ H env l r e1 h ea _ fun v H1 h2 => ?_
  dsimp only at e
  split at e
  · rename_i i
    cases e
    obtain ⟨G, os, rp⟩ := h2.rep
    obtain ⟨v', e', d⟩ := rp.shOf List.mem_cons_self
    cases e'
    cases d
    exact ⟨i, rfl, q H1 h2.drop⟩
  · cases e
def fSlice (fa : EvF) (fl fh : EvO) : EvF := fun env => do
  let (ra, e1) ← fa env
  let (lo, e2) ← fl e1
  let (hi, e3) ← fh e2
  let a ← Res.ofO (view e3 ra)
  let s ← Res.ofO (sliceD a lo hi)
  .ok (s, e3)
def rSlAll (K : PySem.W.Frag) : V → Option Int → Option Int → Hp → VK → Prop := fun x lo hi H Q => rSlL K x lo hi H Q ∨ rSlA K x lo hi H Q ∨ rSlS x lo hi H Q
theorem DtAll.cut {K : PySem.W.Frag} {G : Hp} {vs : List V} {ds : List D} (h : DtAll K G vs ds) (lo hi : Option Int) : DtAll K G (cutV vs lo hi) (cutG ds lo hi) := by
  unfold cutV cutG
  rw [h.length]
  exact (h.drop _).take _
theorem sem_slice {K : PySem.W.Frag} {mg : Str → Option Value} {ta : TE} {tl th : TO} (ha : SemE K mg ta fa) (hl : SemO K mg tl fl) (hh : SemO K mg th fh) : SemE K mg (tSl (rSlAll K) ta tl th) (fSlice fa fl fh) := by
  intro σ H env l s env' h e Q q
  unfold fSlice at e
  obtain ⟨⟨ra, e1⟩, ea, e⟩ := Res.bind_ok e
  obtain ⟨⟨lo, e2⟩, el, e⟩ := Res.bind_ok e
  obtain ⟨⟨hi, e3⟩, eh, e⟩ := Res.bind_ok e
  obtain ⟨a, va, e⟩ := Res.bind_ok e
  obtain ⟨s', es, e⟩ := Res.bind_ok e
  cases e
  replace va := Res.ofO_ok va
  replace es := Res.ofO_ok es
  refine ha σ H env l ra e1 h ea _ fun x H1 h1 => ?_
  refine hl σ H1 e1 _ lo e2 h1.hold el _ fun H2 h2 => ?_
  refine hh σ H2 e2 _ hi _ h2 eh _ fun H3 h3 => ?_
  have h3 := h3.toV h1.vw
  obtain ⟨G, os, rp⟩ := h3.rep
  have dx : DpT K G H3 x a := rp.view (σ := σ) List.mem_cons_self (fun it hi => List.mem_cons_of_mem _ (List.mem_append_left _ hi)) h3.vw va
  have fin : ∀ v H4, Got K G H3 v s H4 → Q v H4 := fun v H4 g => q v H4 ⟨h3.len, ((rp.got g).perm (.swap _ _ _)).tail, g.novw⟩
  cases a <;> first | (cases es; done) | skip
  case list ds =>
    cases es
    obtain ⟨p, vs, rfl, hp, hv⟩ := dx.list rp.same
    exact .inl ⟨p, vs, rfl, .of hp, fun l' hl' => fin _ _ (.newL hl' (hv.cut _ _))⟩
  case tuple ds =>
    cases es
    have dx0 := dx
    obtain ⟨p, vs, rfl, hp, hv⟩ := dx.tuple rp.same
    refine .inr (.inl ⟨p, vs, rfl, hp, fun z => ?_, fun _ l' hl' => fin _ _ (.newT rp.same hl' (hv.cut _ _))⟩)
    refine fin _ _ (.now ?_)
    have e : cutG ds lo hi = ds := by
      unfold cutG
      rw [← hv.length, z.1, z.2]
      rw [List.drop_zero, Nat.sub_zero, List.take_of_length_le (Nat.le_of_eq hv.length.symm)]
    rw [e]
    rcases dx0 with dx0 | ⟨_, _, _, _, z, _⟩
    · exact dx0
    · cases z
  case str z =>
    rw [show sliceD (.str z) lo hi = if z.length ≤ 16777216 then some (Sl.sh (.str (cutS z lo hi))) else none from rfl] at es
    split at es
    · rename_i hz
      cases es
      exact .inr (.inr ⟨z, dx.str, sizeL hz, fin _ _ .str⟩)
    · cases es
theorem se_slice (ha : SE X a fa) (hl : SO X lo fl) (hh : SO X hi fh) : SE X (.Subscript a (.Slice lo hi none p2) pos) (fSlice fa fl fh) := by
  obtain ⟨t, p, s⟩ := ha.ex
  obtain ⟨t1, p1, s1⟩ := hl.ex
  obtain ⟨t2, p2, s2⟩ := hh.ex
  exact ⟨_, pe_slice (sl_list.or (sl_tupA.or sl_str)) p p1 p2, sem_slice s s1 s2⟩
end

/-! ### what is shared from now on -/
def freezeR (env : Lo) : Sl → Option (D × Lo)
  | .sh d => some (d, env)
  | .ol ds => some (.list ds, env)
  | .vw i => match env[i]? with
    | some (.ol ds) => some (.list ds, env.set i (.sh (.list ds)))
    | _ => none
  | _ => none
section
variable {K : PySem.W.Frag} {mg : Str → Option Value} {H : Hp} {σ : L2.St} {env env' : Lo} {l : List Item} {v : V} {r : Sl} {d : D}
theorem HoldV.freeze (h : HoldV K mg H σ env l v r) (e : freezeR env r = some (d, env')) : HoldV K mg H σ env' l v (.sh d) := by
  cases r with
  | no => cases e
  | sh d' => cases e; exact h
  | ol ds => cases e; exact ⟨h.len, h.rep.freeze, fun _ z => by cases z⟩
  | od _ => cases e
  | td _ => cases e
  | tt _ _ => cases e
  | oi _ _ => cases e
  | sc _ => cases e
  | vw i =>
    have e1 := h.vw i rfl
    have e : (match env[i]? with | some (Sl.ol ds) => some (PyData.list ds, env.set i (.sh (.list ds))) | _ => Option.none) = some (d, env') := e
    split at e
    · rename_i ds e2
      cases e
      obtain ⟨ov, e3, rp⟩ := Hold.take h.drop e2
      rw [e1] at e3; cases e3
      obtain ⟨G, os, rp⟩ := rp
      obtain ⟨G', v', ev, _, dd, os', rp'⟩ := rp.freeze
      cases ev
      have q := rp'.sh dd
      have q2 : Rep K mg H ((some v, Sl.sh (.list ds)) :: (σ.zip (env.set i .no) ++ ((some v, Sl.sh (.list ds)) :: l))) :=
        Rep.perm ⟨_, _, q⟩ ((List.perm_middle (l₁ := σ.zip (env.set i .no))).symm.cons _)
      have q3 := Rep.put q2 (by rw [List.length_set]; exact h.len) e1
      rw [List.set_set] at q3
      exact ⟨by rw [List.length_set]; exact h.len, q3.perm List.perm_middle, fun _ z => by cases z⟩
    · cases e
def freezeAll (env : Lo) : List Sl → Option (List D × Lo)
  | [] => some ([], env)
  | r :: rs => do
    let (d, e1) ← freezeR env r
    let (ds, e2) ← freezeAll e1 rs
    some (d :: ds, e2)
theorem HoldA.freeze : ∀ {rs : List Sl} {vs : List V} {ds : List D} {env env' : Lo} {l : List Item}, HoldA K mg H σ env l vs rs → freezeAll env rs = some (ds, env') → HoldA K mg H σ env' l vs (ds.map .sh) := by
  intro rs
  induction rs with
  | nil =>
    intro vs ds env env' l h e
    cases e
    have : vs = [] := by have := h.alen; simpa using this
    subst this
    exact h
  | cons r rs ih =>
    intro vs ds env env' l h e
    cases vs with
    | nil => have := h.alen; simp at this
    | cons v vs =>
      simp only [freezeAll, Option.bind_eq_bind, Option.bind_eq_some_iff] at e
      obtain ⟨⟨d, e1⟩, ea, ⟨ds', e2⟩, eb, e⟩ := e
      cases e
      have hv : HoldV K mg H σ env ((vs.map some).zip rs ++ l) v r := ⟨h.len, by
        have := h.rep
        rw [List.map_cons, List.zip_cons_cons, List.cons_append] at this
        refine this.perm (List.Perm.cons _ ?_)
        rw [← List.append_assoc, ← List.append_assoc]
        exact List.perm_append_comm.append_right l, h.vw 0 v r rfl rfl⟩
      have hv2 := hv.freeze ea
      have ha : HoldA K mg H σ e1 ((some v, .sh d) :: l) vs rs := ⟨hv2.len, by
        have := hv2.rep
        refine this.perm ?_
        have : ((vs.map some).zip rs ++ (σ.zip e1 ++ (some v, Sl.sh d) :: l)).Perm ((some v, Sl.sh d) :: ((vs.map some).zip rs ++ (σ.zip e1 ++ l))) := by
          rw [← List.append_assoc, ← List.append_assoc]
          exact List.perm_middle
        refine (List.Perm.cons _ ?_).trans this.symm
        rw [← List.append_assoc, ← List.append_assoc]
        exact List.perm_append_comm.append_right l, by simpa using h.alen, fun k v' r' e1 e2 => h.vw (k + 1) v' r' (by simpa using e1) (by simpa using e2)⟩
      have hb := ih ha eb
      refine ⟨hb.len, ?_, by simpa using hb.alen, fun k v' r' e1 e2 => ?_⟩
      · rw [List.map_cons, List.map_cons, List.zip_cons_cons, List.cons_append]
        refine hb.rep.perm ?_
        rw [← List.append_assoc, ← List.append_assoc]
        exact List.perm_middle
      · cases k with
        | zero => simp at e1 e2; subst e2; intro _ z; cases z
        | succ k => exact hb.vw k v' r' (by simpa using e1) (by simpa using e2)
theorem Rp.all {G : Hp} {L : List Item} {os : List Addr} (h : Rp K mg G H L os) : ∀ {vs : List V} {ds : List D}, vs.length = ds.length → (∀ it ∈ (vs.map some).zip (ds.map Sl.sh), it ∈ L) → DtAll K G vs ds
  | [], [], _, _ => .nil
  | [], _ :: _, e, _ => by simp at e
  | _ :: _, [], e, _ => by simp at e
  | v :: vs, d :: ds, e, hm => by
    obtain ⟨v', e', dd⟩ := h.shOf (hm (some v, .sh d) (by simp))
    cases e'
    exact .cons dd (h.all (by simpa using e) fun it hi => hm it (by
      rw [List.map_cons, List.map_cons, List.zip_cons_cons]
      exact List.mem_cons_of_mem _ hi))
theorem Rep.dropA {L : List Item} : ∀ (M : List Item), Rep K mg H (M ++ L) → Rep K mg H L
  | [], h => h
  | _ :: M, h => Rep.dropA M h.tail
end
/-! ### displays -/
def fTup (fs : EvA) : EvF := fun env => do
  let (rs, e1) ← fs env
  let (ds, e2) ← Res.ofO (freezeAll e1 rs)
  if ds.length ≤ 16777216 then .ok (.sh (.tuple ds), e2) else .bad
def fLst (fs : EvA) : EvF := fun env => do
  let (rs, e1) ← fs env
  let (ds, e2) ← Res.ofO (freezeAll e1 rs)
  if ds.length ≤ 16777216 then .ok (.ol ds, e2) else .bad
section
variable {X : Cx} {es : List Expr} {fs : EvA} {pos : Pos}
theorem se_tup {x1} (h : SA X es fs) : SE X (.Tuple es x1 pos) (fTup fs) := by
  obtain ⟨t, p, s⟩ := h.ex
  refine ⟨_, pe_tup p, ?_⟩
  intro σ H env l r env' h e Q q
  unfold fTup at e
  obtain ⟨⟨rs, e1⟩, ea, e⟩ := Res.bind_ok e
  obtain ⟨⟨ds, e2⟩, eb, e⟩ := Res.bind_ok e
  have eb := Res.ofO_ok eb
  dsimp only at e
  split at e
  · rename_i hz
    cases e
    refine s σ H env l rs e1 h ea _ fun vs H1 h1 => ?_
    have h2 := h1.freeze eb
    have hl : vs.length = ds.length := by simpa using h2.alen
    refine ⟨sizeL (by rw [hl]; exact hz), fun x hx => q _ _ ⟨h2.len, ?_, fun _ z => by cases z⟩⟩
    obtain ⟨G, os, rp⟩ := h2.rep
    have g := Got.newT rp.same hx (rp.all hl fun it hi => List.mem_append_left _ hi)
    have := rp.got g
    have := this.perm (l' := ((vs.map some).zip (ds.map Sl.sh)) ++ ((some (V.ref x), Sl.sh (.tuple ds)) :: (σ.zip env' ++ l))) List.perm_middle.symm
    exact Rep.dropA _ this
  · cases e
theorem se_lst (h : SA X es fs) : SE X (.List es pos) (fLst fs) := by
  obtain ⟨t, p, s⟩ := h.ex
  refine ⟨_, pe_lst p, ?_⟩
  intro σ H env l r env' h e Q q
  unfold fLst at e
  obtain ⟨⟨rs, e1⟩, ea, e⟩ := Res.bind_ok e
  obtain ⟨⟨ds, e2⟩, eb, e⟩ := Res.bind_ok e
  have eb := Res.ofO_ok eb
  dsimp only at e
  split at e
  · rename_i hz
    cases e
    refine s σ H env l rs e1 h ea _ fun vs H1 h1 => ?_
    have h2 := h1.freeze eb
    have hl : vs.length = ds.length := by simpa using h2.alen
    refine ⟨sizeL (by rw [hl]; exact hz), fun x hx => q _ _ ⟨h2.len, ?_, fun _ z => by cases z⟩⟩
    obtain ⟨G, os, rp⟩ := h2.rep
    have g := Got.newL (H := H1) (G := G) hx (rp.all hl fun it hi => List.mem_append_left _ hi)
    have := rp.got g
    have := this.perm (l' := ((vs.map some).zip (ds.map Sl.sh)) ++ ((some (V.ref x), Sl.ol ds) :: (σ.zip env' ++ l))) List.perm_middle.symm
    exact Rep.dropA _ this
  · cases e
end

/-! ### built-ins by their name -/
inductive DTs (K : PySem.W.Frag) (G H : Hp) : List V → List D → Prop
  | nil : DTs K G H [] []
  | cons {v : V} {d : D} {vs : List V} {ds : List D} : DpT K G H v d → DTs K G H vs ds → DTs K G H (v :: vs) (d :: ds)
def SemC (K : PySem.W.Frag) (r : List V → Hp → VK → Prop) (op : List D → Option Sl) : Prop :=
  ∀ (G H : Hp) (vs : List V) (ds : List D) (s : Sl) (Q : VK), Same G H → DTs K G H vs ds → op ds = some s → (∀ v H', Got K G H v s H' → Q v H') → r vs H Q
def views (env : Lo) : List Sl → Option (List D)
  | [] => some []
  | r :: rs => do
    let d ← view env r
    let ds ← views env rs
    some (d :: ds)
def fCB (op : List D → Option Sl) (fs : EvA) : EvF := fun env => do
  let (rs, e1) ← fs env
  let ds ← Res.ofO (views e1 rs)
  let s ← Res.ofO (op ds)
  .ok (s, e1)
theorem views_ok {K : PySem.W.Frag} {mg : Str → Option Value} {G H : Hp} {σ : L2.St} {env : Lo} {L : List Item} {os : List Addr} (rp : Rp K mg G H L os) (hz : ∀ it ∈ σ.zip env, it ∈ L) :
    ∀ {vs : List V} {rs : List Sl} {ds : List D}, vs.length = rs.length → (∀ it ∈ (vs.map some).zip rs, it ∈ L) → (∀ (k : Nat) (v : V) (r : Sl), vs[k]? = some v → rs[k]? = some r → VwOk σ v r) → views env rs = some ds → DTs K G H vs ds
  | [], [], ds, _, _, _, e => by cases e; exact .nil
  | [], _ :: _, _, h, _, _, _ => by simp at h
  | _ :: _, [], _, h, _, _, _ => by simp at h
  | v :: vs, r :: rs, ds, h, hm, hv, e => by
    simp only [views, Option.bind_eq_bind, Option.bind_eq_some_iff] at e
    obtain ⟨d, ed, ds', eds, e⟩ := e
    cases e
    refine .cons (rp.view (σ := σ) (hm _ (by simp)) hz (hv 0 v r rfl rfl) ed) (views_ok rp hz (by simpa using h) (fun it hi => hm it ?_) (fun k v r e1 e2 => hv (k + 1) v r (by simpa using e1) (by simpa using e2)) eds)
    rw [List.map_cons, List.zip_cons_cons]
    exact List.mem_cons_of_mem _ hi
theorem sem_cb {K : PySem.W.Frag} {mg : Str → Option Value} {r : List V → Hp → VK → Prop} {op : List D → Option Sl} {t : TA} {fs : EvA} (ho : SemC K r op) (hs : SemA K mg t fs) : SemE K mg (tCB r t) (fCB op fs) := by
  intro σ H env l s env' h e Q q
  unfold fCB at e
  obtain ⟨⟨rs, e1⟩, ea, e⟩ := Res.bind_ok e
  obtain ⟨ds, ev, e⟩ := Res.bind_ok e
  obtain ⟨s', es, e⟩ := Res.bind_ok e
  cases e
  have ev := Res.ofO_ok ev
  have es := Res.ofO_ok es
  refine hs σ H env l rs _ h ea _ fun vs H1 h1 => ?_
  obtain ⟨G, os, rp⟩ := h1.rep
  refine ho G H1 vs ds s Q rp.same (views_ok rp (fun it hi => List.mem_append_right _ (List.mem_append_left _ hi)) h1.alen (fun it hi => List.mem_append_left _ hi) h1.vw ev) es fun v H2 g => q v H2 ⟨h1.len, ?_, g.novw⟩
  have := rp.got g
  have := this.perm (l' := ((vs.map some).zip rs) ++ ((some v, s) :: (σ.zip env' ++ l))) List.perm_middle.symm
  exact Rep.dropA _ this
section
variable {X : Cx} {x : Str} {p pos : Pos} {e : Expr} {es : List Expr} {fs : EvA} {id T : String} {r : List V → Hp → VK → Prop} {op : List D → Option Sl}
theorem se_cB (hc : CallR X (.builtin id) r) (so : SemC X.K r op) (hg : Gl X x) (hm : X.mg x = none) (hv : bootBuiltins x = some (.builtin id)) (ha : SA X (e :: es) fs) (hn : x ≠ "__name__" := by decide) (hdb : (x == ("__debug__" : Str)) = false := by decide)
    (he : starEach (e :: es) X.env = (false, eval e X.env) :: starEach es X.env := by rfl) (hpl : (backTo pos (starEach es X.env)).any (·.1) = false := by rfl) : SE X (.Call (.Name x p) (e :: es) [] pos) (fCB op fs) := by
  obtain ⟨t, p', s⟩ := ha.ex
  exact ⟨_, pe_callB hc hg hm hv p' hn hdb he hpl, sem_cb so s⟩
theorem se_cTy (hc : CallR X (.type T) r) (so : SemC X.K r op) (hg : Gl X x) (hm : X.mg x = none) (hv : bootBuiltins x = some (.type T)) (ha : SA X (e :: es) fs) (hn : x ≠ "__name__" := by decide) (hdb : (x == ("__debug__" : Str)) = false := by decide)
    (he : starEach (e :: es) X.env = (false, eval e X.env) :: starEach es X.env := by rfl) (hpl : (backTo pos (starEach es X.env)).any (·.1) = false := by rfl) : SE X (.Call (.Name x p) (e :: es) [] pos) (fCB op fs) := by
  obtain ⟨t, p', s⟩ := ha.ex
  exact ⟨_, pe_callTy hc hg hm hv p' hn hdb he hpl, sem_cb so s⟩
end
theorem DTs.one {K : PySem.W.Frag} {G H : Hp} {vs : List V} {d : D} (h : DTs K G H vs [d]) : ∃ v, vs = [v] ∧ DpT K G H v d := by
  cases h with
  | cons a b => cases b; exact ⟨_, rfl, a⟩
theorem DTs.two {K : PySem.W.Frag} {G H : Hp} {vs : List V} {d d' : D} (h : DTs K G H vs [d, d']) : ∃ v v', vs = [v, v'] ∧ DpT K G H v d ∧ DpT K G H v' d' := by
  cases h with
  | cons a b => cases b with
    | cons b c => cases c; exact ⟨_, _, rfl, a, b⟩
def lenD : List D → Option Sl
  | [.list ds] => some (.sh (.int ds.length))
  | [.tuple ds] => some (.sh (.int ds.length))
  | [.str x] => if x.length ≤ 16777216 then some (.sh (.int x.length)) else none
  | _ => none
def rLenAll (K : PySem.W.Frag) : List V → Hp → VK → Prop := fun xs H Q => (∃ p ys, xs = [.ref p] ∧ (SqL K H p ys ∨ SqT K H p ys) ∧ Q (.int ys.length) H) ∨ ∃ z, xs = [.str z] ∧ z.length ≤ sizeLine ∧ Q (.int z.length) H
theorem CallR.or {X : Cx} {f : Value} {r r' : List V → Hp → VK → Prop} (h : CallR X f r) (h' : CallR X f r') : CallR X f (fun xs H Q => r xs H Q ∨ r' xs H Q) := by
  intro pins s σ H xs us Q I rx q
  rcases q with q | q
  · exact h pins s σ H xs us Q I rx q
  · exact h' pins s σ H xs us Q I rx q
theorem oc_len {X : Cx} : CallR X (.builtin "len") (rLenAll X.K) := call_len_seq.or call_len_str
theorem sc_len {K : PySem.W.Frag} : SemC K (rLenAll K) lenD := by
  intro G H vs ds s Q sm h e q
  unfold lenD at e
  split at e
  · cases e
    obtain ⟨v, rfl, d⟩ := h.one
    obtain ⟨p, ws, rfl, hp, hv⟩ := d.list sm
    exact .inl ⟨p, ws, rfl, .inl (.of hp), by rw [hv.length]; exact q _ _ .int⟩
  · cases e
    obtain ⟨v, rfl, d⟩ := h.one
    obtain ⟨p, ws, rfl, hp, hv⟩ := d.tuple sm
    exact .inl ⟨p, ws, rfl, .inr hp, by rw [hv.length]; exact q _ _ .int⟩
  · split at e
    · rename_i hz
      cases e
      obtain ⟨v, rfl, d⟩ := h.one
      exact .inr ⟨_, by rw [d.str], sizeL hz, q _ _ .int⟩
    · cases e
  · cases e
def intsOf : List D → Option (List Int)
  | [] => some []
  | .int i :: ds => (intsOf ds).map (i :: ·)
  | _ => none
theorem intsOf_eq : ∀ {ds : List D} {ns : List Int}, intsOf ds = some ns → ds = ns.map PyData.int
  | [], ns, e => by cases e; rfl
  | .int i :: ds, ns, e => by
    simp only [intsOf, Option.map_eq_some_iff] at e
    obtain ⟨ms, e1, e2⟩ := e
    subst e2
    rw [intsOf_eq e1]; rfl
  | .none :: _, _, e => by cases e
  | .bool _ :: _, _, e => by cases e
  | .str _ :: _, _, e => by cases e
  | .list _ :: _, _, e => by cases e
  | .tuple _ :: _, _, e => by cases e
  | .dict _ :: _, _, e => by cases e
theorem intsOf_map : ∀ (ns : List Int), intsOf (ns.map PyData.int) = some ns
  | [] => rfl
  | n :: ns => by simp only [List.map_cons, intsOf, intsOf_map ns, Option.map_some]
def boolsOf : List D → Option (List Bool)
  | [] => some []
  | .bool i :: ds => (boolsOf ds).map (i :: ·)
  | _ => none
theorem boolsOf_eq : ∀ {ds : List D} {ns : List Bool}, boolsOf ds = some ns → ds = ns.map PyData.bool
  | [], ns, e => by cases e; rfl
  | .bool i :: ds, ns, e => by
    simp only [boolsOf, Option.map_eq_some_iff] at e
    obtain ⟨ms, e1, e2⟩ := e
    subst e2
    rw [boolsOf_eq e1]; rfl
  | .none :: _, _, e => by cases e
  | .int _ :: _, _, e => by cases e
  | .str _ :: _, _, e => by cases e
  | .list _ :: _, _, e => by cases e
  | .tuple _ :: _, _, e => by cases e
  | .dict _ :: _, _, e => by cases e
theorem boolsOf_map : ∀ (ns : List Bool), boolsOf (ns.map PyData.bool) = some ns
  | [] => rfl
  | n :: ns => by simp only [List.map_cons, boolsOf, boolsOf_map ns, Option.map_some]
theorem DtAll.of_bools {K : PySem.W.Frag} {G : Hp} : ∀ {vs : List V} {ns : List Bool}, DtAll K G vs (ns.map PyData.bool) → vs = ns.map V.bl
  | _, [], h => by cases h; rfl
  | _, n :: ns, h => by
    cases h with
    | cons r t => cases r; rw [DtAll.of_bools t]; rfl
def sumD : List D → Option Sl
  | [.list ds] => (intsOf ds).map fun ns => .sh (.int ns.sum)
  | _ => none
theorem sc_sum {K : PySem.W.Frag} : SemC K (rSum K) sumD := by
  intro G H vs ds s Q sm h e q
  unfold sumD at e
  split at e
  · rename_i ds
    simp only [Option.map_eq_some_iff] at e
    obtain ⟨ns, e1, e2⟩ := e
    subst e2
    have := intsOf_eq e1
    subst this
    obtain ⟨v, rfl, d⟩ := h.one
    obtain ⟨p, ws, rfl, hp, hv⟩ := d.list sm
    have := hv.of_ints
    subst this
    exact ⟨p, ns, rfl, .of hp, q _ _ .int⟩
  · cases e
def anyD : List D → Option Sl
  | [.list ds] => (boolsOf ds).map fun ns => .sh (.bool (ns.any id))
  | _ => none
def allD : List D → Option Sl
  | [.list ds] => (boolsOf ds).map fun ns => .sh (.bool (ns.all id))
  | _ => none
theorem sc_any {K : PySem.W.Frag} : SemC K (rAny K) anyD := by
  intro G H vs ds s Q sm h e q
  unfold anyD at e
  split at e
  · rename_i ds
    simp only [Option.map_eq_some_iff] at e
    obtain ⟨ns, e1, e2⟩ := e
    subst e2
    have := boolsOf_eq e1
    subst this
    obtain ⟨v, rfl, d⟩ := h.one
    obtain ⟨p, ws, rfl, hp, hv⟩ := d.list sm
    have := hv.of_bools
    subst this
    exact ⟨p, ns, rfl, .of hp, q _ _ .bl⟩
  · cases e
theorem sc_all {K : PySem.W.Frag} : SemC K (rAll K) allD := by
  intro G H vs ds s Q sm h e q
  unfold allD at e
  split at e
  · rename_i ds
    simp only [Option.map_eq_some_iff] at e
    obtain ⟨ns, e1, e2⟩ := e
    subst e2
    have := boolsOf_eq e1
    subst this
    obtain ⟨v, rfl, d⟩ := h.one
    obtain ⟨p, ws, rfl, hp, hv⟩ := d.list sm
    have := hv.of_bools
    subst this
    exact ⟨p, ns, rfl, .of hp, q _ _ .bl⟩
  · cases e
def absD : List D → Option Sl
  | [.int i] => some (.sh (.int (if i < 0 then -i else i)))
  | _ => none
theorem sc_abs {K : PySem.W.Frag} : SemC K (fun xs H Q => ∃ i, xs = [V.int i] ∧ Q (.int (if i < 0 then -i else i)) H) absD := by
  intro G H vs ds s Q sm h e q
  unfold absD at e
  split at e
  · cases e
    obtain ⟨v, rfl, d⟩ := h.one
    exact ⟨_, by rw [d.int], q _ _ .int⟩
  · cases e
def intD : List D → Option Sl
  | [.int i] => some (.sh (.int i))
  | [.bool b] => some (.sh (.int (if b then 1 else 0)))
  | _ => none
theorem sc_int {K : PySem.W.Frag} : SemC K (fun xs H Q => (∃ i, xs = [V.int i] ∧ Q (.int i) H) ∨ ∃ k, xs = [V.bl k] ∧ Q (.int (if k then 1 else 0)) H) intD := by
  intro G H vs ds s Q sm h e q
  unfold intD at e
  split at e
  · cases e
    obtain ⟨v, rfl, d⟩ := h.one
    exact .inl ⟨_, by rw [d.int], q _ _ .int⟩
  · cases e
    obtain ⟨v, rfl, d⟩ := h.one
    exact .inr ⟨_, by rw [d.bool], q _ _ .int⟩
  · cases e
def maxD : List D → Option Sl
  | [.int i, .int j] => some (.sh (.int (if j > i then j else i)))
  | _ => none
theorem sc_max {K : PySem.W.Frag} : SemC K (fun xs H Q => ∃ i j, xs = [V.int i, .int j] ∧ Q (.int (if j > i then j else i)) H) maxD := by
  intro G H vs ds s Q sm h e q
  unfold maxD at e
  split at e
  · cases e
    obtain ⟨v, v', rfl, d, d'⟩ := h.two
    exact ⟨_, _, by rw [d.int, d'.int], q _ _ .int⟩
  · cases e
def tupleD : List D → Option Sl
  | [.list ds] => some (.sh (.tuple ds))
  | [.tuple ds] => some (.sh (.tuple ds))
  | _ => none
theorem sc_tuple {K : PySem.W.Frag} : SemC K (fun xs H Q => ∃ p ys, xs = [V.ref p] ∧ ((SqL K H p ys ∧ ∀ l, H l = Option.none → Q (.ref l) (upd H l (.tup ys))) ∨ (SqT K H p ys ∧ Q (.ref p) H))) tupleD := by
  intro G H vs ds s Q sm h e q
  unfold tupleD at e
  split at e
  · cases e
    obtain ⟨v, rfl, d⟩ := h.one
    obtain ⟨p, ws, rfl, hp, hv⟩ := d.list sm
    exact ⟨p, ws, rfl, .inl ⟨.of hp, fun l hl => q _ _ (.newT sm hl hv)⟩⟩
  · cases e
    obtain ⟨v, rfl, d⟩ := h.one
    have d0 := d
    obtain ⟨p, ws, rfl, hp, hv⟩ := d.tuple sm
    refine ⟨p, ws, rfl, .inr ⟨hp, q _ _ (.now ?_)⟩⟩
    rcases d0 with d0 | ⟨_, _, _, _, z, _⟩
    · exact d0
    · cases z
  · cases e
def listD : List D → Option Sl
  | [.list ds] => some (.ol ds)
  | [.tuple ds] => some (.ol ds)
  | _ => none
theorem sc_list {K : PySem.W.Frag} : SemC K (fun xs H Q => ∃ p ys, xs = [V.ref p] ∧ (SqL K H p ys ∨ SqT K H p ys) ∧ ∀ l, H l = Option.none → Q (.ref l) (upd H l (.lst ys))) listD := by
  intro G H vs ds s Q sm h e q
  unfold listD at e
  split at e
  · cases e
    obtain ⟨v, rfl, d⟩ := h.one
    obtain ⟨p, ws, rfl, hp, hv⟩ := d.list sm
    exact ⟨p, ws, rfl, .inl (.of hp), fun l hl => q _ _ (.newL hl hv)⟩
  · cases e
    obtain ⟨v, rfl, d⟩ := h.one
    obtain ⟨p, ws, rfl, hp, hv⟩ := d.tuple sm
    exact ⟨p, ws, rfl, .inr hp, fun l hl => q _ _ (.newL hl hv)⟩
  · cases e
end FL

/-! FL5: calls of the text's own defs, statements, loops, comprehensions -/
namespace FL
open PySem PySem.Spec PyProof.Rows L2

/-! ### a def as a function of what its arguments hold -/
abbrev Fn := List Sl → Res (Sl × List Sl)
def isVw : Sl → Bool
  | .vw _ => true
  | _ => false
def spF (K : PySem.W.Frag) (mg : Str → Option Value) (n : Nat) (F : Fn) : Sp := fun vs H Q _ => vs.length = n ∧ ∃ (args : List Sl) (l : List Item) (r : Sl) (args' : List Sl), args.length = n ∧ Rep K mg H ((vs.map some).zip args ++ l) ∧ F args = .ok (r, args') ∧
  ∀ v H', Rep K mg H' ((some v, r) :: ((vs.map some).zip args' ++ l)) → isVw r = false → Q v H'
structure FnF (P : Program) (w : World) (K : PySem.W.Frag) (mg : Str → Option Value) (base : Heap) (x : Str) (n k : Nat) (F : Fn) : Prop where
  ex : ∃ (f : Addr) (fd : FuncData) (ps : List Str), mg x = some (.ref f) ∧ PySem.W.keepIn K (.ref f) = true ∧ Binds K fd ps [] ∧ FnOk P w K mg base CX0 k f fd ps (spF K mg n F)
def moveIn (env : Lo) : List Sl → List Sl × Lo
  | [] => ([], env)
  | r :: rs => match r with
    | .vw i => let p := moveIn (env.set i .no) rs; ((env[i]?.getD .no) :: p.1, p.2)
    | r => let p := moveIn env rs; (r :: p.1, p.2)
def moveBack (env : Lo) : List Sl → List Sl → Lo
  | r :: rs, a :: as => match r with
    | .vw i => moveBack (env.set i a) rs as
    | _ => moveBack env rs as
  | _, _ => env
def fCall (F : Fn) (fs : EvA) : EvF := fun env => do
  let (rs, e1) ← fs env
  let (r, as') ← F (moveIn e1 rs).1
  if isVw r = true then .bad else .ok (r, moveBack (moveIn e1 rs).2 rs as')
section
variable {K : PySem.W.Frag} {mg : Str → Option Value} {H : Hp} {σ : L2.St} {l : List Item}
theorem perm_mid {α : Type} {a : α} {A B : List α} : (a :: (A ++ B)).Perm (A ++ a :: B) := List.perm_middle.symm
theorem moveIn_ok : ∀ {rs : List Sl} {vs : List V} {env : Lo} {l : List Item}, HoldA K mg H σ env l vs rs → σ.length = (moveIn env rs).2.length ∧ (moveIn env rs).1.length = rs.length ∧ Rep K mg H ((vs.map some).zip (moveIn env rs).1 ++ (σ.zip (moveIn env rs).2 ++ l)) := by
  intro rs
  induction rs with
  | nil => intro vs env l h; exact ⟨h.len, rfl, h.rep⟩
  | cons r rs ih =>
    intro vs env l h
    cases vs with
    | nil => have := h.alen; simp at this
    | cons v vs =>
      have h0 : Rep K mg H ((some v, r) :: ((vs.map some).zip rs ++ (σ.zip env ++ l))) := by
        have := h.rep
        rw [List.map_cons, List.zip_cons_cons, List.cons_append] at this
        exact this
      have hw : ∀ (k : Nat) (v' : V) (r' : Sl), vs[k]? = some v' → rs[k]? = some r' → VwOk σ v' r' := fun k v' r' e1 e2 => h.vw (k + 1) v' r' (by simpa using e1) (by simpa using e2)
      by_cases hr : ∃ i, r = .vw i
      · obtain ⟨i, rfl⟩ := hr
        have e1 : σ[i]? = some (some v) := h.vw 0 v _ rfl rfl i rfl
        have hi : i < env.length := by have := (List.getElem?_eq_some_iff.mp e1).1; have := h.len; omega
        have e2 : env[i]? = some env[i] := List.getElem?_eq_getElem hi
        have hh : Hold K mg H σ env ((vs.map some).zip rs ++ l) := ⟨h.len, by
          refine h0.tail.perm ?_
          rw [← List.append_assoc, ← List.append_assoc]
          exact List.perm_append_comm.append_right l⟩
        obtain ⟨ov, e3, rp⟩ := hh.take e2
        rw [e1] at e3; cases e3
        have ha : HoldA K mg H σ (env.set i .no) ((some v, env[i]) :: l) vs rs := ⟨by rw [List.length_set]; exact h.len, by
          refine rp.perm ?_
          refine List.Perm.trans (List.Perm.cons _ ?_) (l₂ := (some v, env[i]) :: ((vs.map some).zip rs ++ (σ.zip (env.set i .no) ++ l))) ?_
          · rw [← List.append_assoc, ← List.append_assoc]
            exact List.perm_append_comm.append_right l
          · rw [← List.append_assoc, ← List.append_assoc]
            exact perm_mid, by have := h.alen; simpa using this, hw⟩
        obtain ⟨a, b, c⟩ := ih ha
        have es : moveIn env (Sl.vw i :: rs) = (env[i] :: (moveIn (env.set i .no) rs).1, (moveIn (env.set i .no) rs).2) := by
          show ((env[i]?.getD .no) :: _, _) = _
          rw [e2]; rfl
        rw [es]
        refine ⟨a, by simp [b], ?_⟩
        rw [List.map_cons, List.zip_cons_cons, List.cons_append]
        refine c.perm ?_
        rw [← List.append_assoc, ← List.append_assoc]
        exact perm_mid.symm
      · have es : moveIn env (r :: rs) = (r :: (moveIn env rs).1, (moveIn env rs).2) := by
          cases r <;> first | rfl | exact absurd ⟨_, rfl⟩ hr
        have ha : HoldA K mg H σ env ((some v, r) :: l) vs rs := ⟨h.len, by
          refine h0.perm ?_
          rw [← List.append_assoc, ← List.append_assoc]
          exact perm_mid, by have := h.alen; simpa using this, hw⟩
        obtain ⟨a, b, c⟩ := ih ha
        rw [es]
        refine ⟨a, by simp [b], ?_⟩
        rw [List.map_cons, List.zip_cons_cons, List.cons_append]
        refine c.perm ?_
        rw [← List.append_assoc, ← List.append_assoc]
        exact perm_mid.symm
theorem moveBack_ok : ∀ {rs as : List Sl} {vs : List V} {env : Lo} {l : List Item}, σ.length = env.length → vs.length = rs.length → Rep K mg H ((vs.map some).zip as ++ (σ.zip env ++ l)) →
    (∀ (k : Nat) (v : V) (r : Sl), vs[k]? = some v → rs[k]? = some r → VwOk σ v r) → σ.length = (moveBack env rs as).length ∧ Rep K mg H (σ.zip (moveBack env rs as) ++ l) := by
  intro rs
  induction rs with
  | nil => intro as vs env l h1 h2 h3 h4; exact ⟨h1, Rep.dropA _ h3⟩
  | cons r rs ih =>
    intro as vs env l h1 h2 h3 h4
    cases as with
    | nil => exact ⟨h1, Rep.dropA _ h3⟩
    | cons a as =>
      cases vs with
      | nil => simp at h2
      | cons v vs =>
        have h0 : Rep K mg H ((some v, a) :: ((vs.map some).zip as ++ (σ.zip env ++ l))) := by
          rw [List.map_cons, List.zip_cons_cons, List.cons_append] at h3
          exact h3
        have hw : ∀ (k : Nat) (v' : V) (r' : Sl), vs[k]? = some v' → rs[k]? = some r' → VwOk σ v' r' := fun k v' r' e1 e2 => h4 (k + 1) v' r' (by simpa using e1) (by simpa using e2)
        by_cases hr : ∃ i, r = .vw i
        · obtain ⟨i, rfl⟩ := hr
          have e1 : σ[i]? = some (some v) := h4 0 v _ rfl rfl i rfl
          have hp : Rep K mg H ((some v, a) :: (σ.zip env ++ ((vs.map some).zip as ++ l))) := by
            refine h0.perm (List.Perm.cons _ ?_)
            rw [← List.append_assoc, ← List.append_assoc]
            exact List.perm_append_comm.append_right l
          have q := Rep.put hp h1 e1
          show σ.length = (moveBack (env.set i a) rs as).length ∧ _
          refine ih (by rw [List.length_set]; exact h1) (by simpa using h2) (q.perm ?_) hw
          rw [← List.append_assoc, ← List.append_assoc]
          exact List.perm_append_comm.append_right l
        · have es : moveBack env (r :: rs) (a :: as) = moveBack env rs as := by
            cases r <;> first | rfl | exact absurd ⟨_, rfl⟩ hr
          rw [es]
          exact ih h1 (by simpa using h2) h0.tail hw
theorem sem_call {n : Nat} {F : Fn} {t : TA} {fs : EvA} {na : Nat} (hn : na = n) (hs : SemA K mg t fs) (hl : ∀ env rs env', fs env = .ok (rs, env') → rs.length = na) : SemE K mg (tCall (spF K mg n F) [] E0 t) (fCall F fs) := by
  subst hn
  intro σ H env l r env' h e Q q
  unfold fCall at e
  obtain ⟨⟨rs, e1⟩, ea, e⟩ := Res.bind_ok e
  obtain ⟨⟨r', as'⟩, eF, e⟩ := Res.bind_ok e
  dsimp only at eF e
  split at e
  · cases e
  · rename_i hr
    cases e
    refine hs σ H env l rs e1 h ea _ fun vs H1 h1 => ?_
    obtain ⟨a, b, c⟩ := moveIn_ok h1
    show spF K mg na F (vs ++ []) H1 Q E0
    rw [List.append_nil]
    have hlen := hl _ _ _ ea
    refine ⟨by rw [h1.alen, hlen], _, _, r, as', by rw [b, hlen], c, eF, fun v H2 rp hv => q v H2 ?_⟩
    have rp2 : Rep K mg H2 ((vs.map some).zip as' ++ (σ.zip (moveIn e1 rs).2 ++ ((some v, r) :: l))) := by
      refine rp.perm ?_
      have p1 : ((some v, r) :: ((vs.map some).zip as' ++ (σ.zip (moveIn e1 rs).2 ++ l))).Perm ((vs.map some).zip as' ++ ((some v, r) :: (σ.zip (moveIn e1 rs).2 ++ l))) := perm_mid
      exact p1.trans (List.Perm.append_left _ perm_mid)
    obtain ⟨x, y⟩ := moveBack_ok a h1.alen rp2 h1.vw
    exact ⟨x, y.perm perm_mid.symm, fun i z => by subst z; simp [isVw] at hr⟩
end
/-- how many arguments -/
structure ArN (fs : EvA) (n : Nat) : Prop where
  eq : ∀ env rs env', fs env = .ok (rs, env') → rs.length = n
theorem ar_nil : ArN fNil 0 := ⟨fun _ _ _ e => by cases e; rfl⟩
theorem ar_cons {fa : EvF} {fr : EvA} {n : Nat} (h : ArN fr n) : ArN (fCons fa fr) (n + 1) := ⟨fun env rs env' e => by
  unfold fCons at e
  obtain ⟨⟨ra, e1⟩, ea, e⟩ := Res.bind_ok e
  obtain ⟨⟨rb, e2⟩, eb, e⟩ := Res.bind_ok e
  cases e
  simp [h.eq _ _ _ eb]⟩
section
variable {X : Cx} {x : Str} {n k : Nat} {F : Fn} {p pos : Pos} {e : Expr} {es : List Expr} {fs : EvA}
theorem se_call (hF : FnF X.prog X.w X.K X.mg X.base x n k F) (hr : Room k X.A) (hg : Gl X x) (ha : SA X (e :: es) fs) (hn : ArN fs n) (hdb : (x == ("__debug__" : Str)) = false := by decide)
    (he : starEach (e :: es) X.env = (false, eval e X.env) :: starEach es X.env := by rfl) (hpl : (backTo pos (starEach es X.env)).any (·.1) = false := by rfl) : SE X (.Call (.Name x p) (e :: es) [] pos) (fCall F fs) := by
  obtain ⟨f, fd, ps, hm, hk, hb, F⟩ := hF.ex
  obtain ⟨t, p', s⟩ := ha.ex
  exact ⟨_, pe_call F hr hg hm hk hb .nil pass0 p' hdb he hpl, sem_call rfl s hn.eq⟩
end

/-! ### statements -/
inductive Out where
  | nx (env : Lo)
  | rt (r : Sl) (env : Lo)
  | bk (env : Lo)
  | ct (env : Lo)
abbrev EvS := Lo → Res Out
def KeepEq (ks : List Nat) (σ σ' : L2.St) : Prop := ∀ k ∈ ks, σ'[k]? = σ[k]?
theorem KeepEq.refl {ks : List Nat} {σ : L2.St} : KeepEq ks σ σ := fun _ _ => rfl
theorem KeepEq.trans {ks : List Nat} {σ σ1 σ2 : L2.St} (a : KeepEq ks σ σ1) (b : KeepEq ks σ1 σ2) : KeepEq ks σ σ2 := fun k h => (b k h).trans (a k h)
def PostS (K : PySem.W.Frag) (mg : Str → Option Value) (D : Ends) (ks : List Nat) (σ : L2.St) (l : List Item) : Out → Prop
  | .nx env' => ∀ σ' H', Hold K mg H' σ' env' l → KeepEq ks σ σ' → D.nx σ' H'
  | .bk env' => ∀ σ' H', Hold K mg H' σ' env' l → KeepEq ks σ σ' → D.bk σ' H'
  | .ct env' => ∀ σ' H', Hold K mg H' σ' env' l → KeepEq ks σ σ' → D.ct σ' H'
  | .rt r env' => ∀ v σ' H', HoldV K mg H' σ' env' l v r → isVw r = false → KeepEq ks σ σ' → D.rt v H'
def SemS (K : PySem.W.Frag) (mg : Str → Option Value) (ks : List Nat) (t : TS) (f : EvS) : Prop :=
  ∀ (σ : L2.St) (H : Hp) (env : Lo) (l : List Item) (o : Out), Hold K mg H σ env l → f env = .ok o → ∀ D : Ends, PostS K mg D ks σ l o → t D σ H
structure SS (X : Cx) (ks : List Nat) (st : Stmt) (f : EvS) : Prop where
  ex : ∃ t, PS X st t ∧ SemS X.K X.mg ks t f
structure SSs (X : Cx) (ks : List Nat) (st : List Stmt) (f : EvS) : Prop where
  ex : ∃ t, PSs X st t ∧ SemS X.K X.mg ks t f
theorem PostS.keep {K : PySem.W.Frag} {mg : Str → Option Value} {D : Ends} {ks : List Nat} {σ σ1 : L2.St} {l : List Item} {o : Out} (k : KeepEq ks σ σ1) (p : PostS K mg D ks σ l o) : PostS K mg D ks σ1 l o := by
  cases o with
  | nx e => exact fun σ' H' h q => p σ' H' h (k.trans q)
  | bk e => exact fun σ' H' h q => p σ' H' h (k.trans q)
  | ct e => exact fun σ' H' h q => p σ' H' h (k.trans q)
  | rt r e => exact fun v σ' H' h n q => p v σ' H' h n (k.trans q)
def fNext : EvS := fun env => .ok (.nx env)
def fSeq (f g : EvS) : EvS := fun env => do
  match ← f env with
  | .nx e => g e
  | o => .ok o
theorem fSeq_eq {f g : EvS} {env : Lo} : fSeq f g env = (f env).bind fun o => match o with | .nx e => g e | o => .ok o := rfl
section
variable {X : Cx} {ks : List Nat} {st : Stmt} {rest body : List Stmt} {f g : EvS} {e : Expr} {fa : EvF} {pos : Pos} {i : Nat} {x : Str}
theorem ss_nil : SSs X ks [] fNext := ⟨_, pss_nil, fun σ H env l o h e D p => by cases e; exact p σ H h .refl⟩
theorem ss_one (h : SS X ks st f) : SSs X ks [st] f := by
  obtain ⟨t, p, s⟩ := h.ex
  exact ⟨_, pss_one p, s⟩
theorem ss_cons (h : SS X ks st f) (h2 : SSs X ks rest g) : SSs X ks (st :: rest) (fSeq f g) := by
  obtain ⟨t, p, s⟩ := h.ex
  obtain ⟨t', p', s'⟩ := h2.ex
  refine ⟨_, pss_cons p p', ?_⟩
  intro σ H env l o h e D post
  obtain ⟨o1, e1, e⟩ := Res.bind_ok e
  refine s σ H env l o1 h e1 _ ?_
  cases o1 with
  | nx e2 => exact fun σ' H' h' k => s' σ' H' e2 l o h' e D (post.keep k)
  | bk e2 => cases e; exact post
  | ct e2 => cases e; exact post
  | rt r e2 => cases e; exact post
theorem ss_pass : SS X ks (.Pass pos) fNext := ⟨_, ps_pass, fun σ H env l o h e D p => by cases e; exact p σ H h .refl⟩
def fBrk : EvS := fun env => .ok (.bk env)
def fCont : EvS := fun env => .ok (.ct env)
theorem ss_brk : SS X ks (.Break pos) fBrk := ⟨_, ps_break, fun σ H env l o h e D p => by cases e; exact p σ H h .refl⟩
theorem ss_cont : SS X ks (.Continue pos) fCont := ⟨_, ps_continue, fun σ H env l o h e D p => by cases e; exact p σ H h .refl⟩
/-- a value for a slot -/
def asgR (env : Lo) (r : Sl) : Option (Sl × Lo) := match r with
  | .vw i => (freezeR env (.vw i)).map fun p => (.sh p.1, p.2)
  | .no => none
  | r => some (r, env)
theorem HoldV.asg {K : PySem.W.Frag} {mg : Str → Option Value} {H : Hp} {σ : L2.St} {env env' : Lo} {l : List Item} {v : V} {r r' : Sl} (h : HoldV K mg H σ env l v r) (e : asgR env r = some (r', env')) : HoldV K mg H σ env' l v r' ∧ isVw r' = false := by
  cases r with
  | no => cases e
  | vw i =>
    simp only [asgR, Option.map_eq_some_iff] at e
    obtain ⟨⟨d, e1⟩, ea, eb⟩ := e
    cases eb
    exact ⟨h.freeze ea, rfl⟩
  | sh d => cases e; exact ⟨h, rfl⟩
  | ol ds => cases e; exact ⟨h, rfl⟩
  | od _ => cases e; exact ⟨h, rfl⟩
  | td _ => cases e; exact ⟨h, rfl⟩
  | tt _ _ => cases e; exact ⟨h, rfl⟩
  | oi _ _ => cases e; exact ⟨h, rfl⟩
  | sc _ => cases e; exact ⟨h, rfl⟩
def fAsg (i : Nat) (fa : EvF) : EvS := fun env => do
  let (r, e1) ← fa env
  let (r', e2) ← Res.ofO (asgR e1 r)
  if i < e2.length then .ok (.nx (e2.set i r')) else .bad
theorem keep_set {ks : List Nat} {σ : L2.St} {i : Nat} {ov : Option V} (h : i ∉ ks) : KeepEq ks σ (σ.set i ov) := fun k hk => List.getElem?_set_ne (fun e => h (by rw [e]; exact hk))
theorem sem_asg {K : PySem.W.Frag} {mg : Str → Option Value} {te : TE} (s : SemE K mg te fa) (hk : i ∉ ks) : SemS K mg ks (tAsg te (gName i)) (fAsg i fa) := by
  intro σ H env l o h e D post
  unfold fAsg at e
  obtain ⟨⟨r, e1⟩, ea, e⟩ := Res.bind_ok e
  obtain ⟨⟨r', e2⟩, eb, e⟩ := Res.bind_ok e
  have eb := Res.ofO_ok eb
  dsimp only at e
  split at e
  · rename_i hi
    cases e
    refine s σ H env l r e1 h ea _ fun v H1 h1 => ?_
    obtain ⟨h2, hv⟩ := h1.asg eb
    exact post _ H1 ⟨by rw [List.length_set, List.length_set]; exact h2.len, h2.rep.asg h2.len hi⟩ (keep_set hk)
  · cases e
theorem ss_set {pos' : Pos} (hN : X.N.Nodup) (hi : X.N[i]? = some x) (hx : Loc X.env.scope x) (he : SE X e fa) (hk : i ∉ ks := by decide) (hs : swapsWith e (some (.Name x pos')) pos.line X.env = pure false := by rfl) (hf : X.fn x = true ∨ X.env.scope.names.lookup x = some .local := by first | exact .inl rfl | exact .inr rfl | assumption) :
    SS X ks (.Assign [.Name x pos'] e pos) (fAsg i fa) := by
  obtain ⟨t, p, s⟩ := he.ex
  exact ⟨_, ps_set hN hi hx p hs hf, sem_asg s hk⟩
def fDrop (fa : EvF) : EvS := fun env => do
  let (_, e1) ← fa env
  .ok (.nx e1)
theorem ss_expr (he : SE X e fa) (hs : swapsWith e none pos.line X.env = pure false := by rfl) : SS X ks (.Expr e pos) (fDrop fa) := by
  obtain ⟨t, p, s⟩ := he.ex
  refine ⟨_, ps_expr p hs, ?_⟩
  intro σ H env l o h e D post
  obtain ⟨⟨r, e1⟩, ea, e⟩ := Res.bind_ok e
  cases e
  exact s σ H env l r e1 h ea _ fun v H1 h1 => post σ H1 h1.drop .refl
/-- a value to hand back: a slot's own goes along -/
def retR (env : Lo) : Sl → Option (Sl × Lo)
  | .vw i => match env[i]? with
    | some (.vw _) => none
    | some s => some (s, env.set i .no)
    | none => none
  | .no => none
  | r => some (r, env)
theorem HoldV.ret {K : PySem.W.Frag} {mg : Str → Option Value} {H : Hp} {σ : L2.St} {env env' : Lo} {l : List Item} {v : V} {r r' : Sl} (h : HoldV K mg H σ env l v r) (e : retR env r = some (r', env')) : HoldV K mg H σ env' l v r' ∧ isVw r' = false := by
  cases r with
  | no => cases e
  | vw i =>
    have e1 := h.vw i rfl
    unfold retR at e
    dsimp only at e
    cases hs : env[i]? with
    | none => rw [hs] at e; cases e
    | some s =>
      rw [hs] at e
      have hn : isVw s = false := by cases s <;> first | rfl | (cases e)
      have e : some (s, env.set i .no) = some (r', env') := by cases s <;> first | exact e | (cases e)
      cases e
      obtain ⟨ov, e3, rp⟩ := Hold.take h.drop hs
      rw [e1] at e3; cases e3
      exact ⟨⟨by rw [List.length_set]; exact h.len, rp, fun j z => by subst z; cases hn⟩, hn⟩
  | sh d => cases e; exact ⟨h, rfl⟩
  | ol ds => cases e; exact ⟨h, rfl⟩
  | od _ => cases e; exact ⟨h, rfl⟩
  | td _ => cases e; exact ⟨h, rfl⟩
  | tt _ _ => cases e; exact ⟨h, rfl⟩
  | oi _ _ => cases e; exact ⟨h, rfl⟩
  | sc _ => cases e; exact ⟨h, rfl⟩
def fRet (fa : EvF) : EvS := fun env => do
  let (r, e1) ← fa env
  let (r', e2) ← Res.ofO (retR e1 r)
  .ok (.rt r' e2)
theorem ss_ret (he : SE X e fa) : SS X ks (.Return (some e) pos) (fRet fa) := by
  obtain ⟨t, p, s⟩ := he.ex
  refine ⟨_, ps_ret p, ?_⟩
  intro σ H env l o h e D post
  obtain ⟨⟨r, e1⟩, ea, e⟩ := Res.bind_ok e
  obtain ⟨⟨r', e2⟩, eb, e⟩ := Res.bind_ok e
  have eb := Res.ofO_ok eb
  cases e
  refine s σ H env l r e1 h ea _ fun v H1 h1 => ?_
  obtain ⟨h2, hv⟩ := h1.ret eb
  exact post v σ H1 h2 hv .refl
def fRetN : EvS := fun env => .ok (.rt (.sh .none) env)
theorem ss_retN : SS X ks (.Return none pos) fRetN := ⟨_, ps_retN, fun σ H env l o h e D p => by cases e; exact p _ σ H (h.shV fun _ => .non) rfl .refl⟩
def fIfS (ft : EvT) (f g : EvS) : EvS := fun env => do
  let (b, e1) ← ft env
  if b = true then f e1 else g e1
theorem ss_if {c : Expr} {a b : List Stmt} {fc : EvT} (hc : ST X c fc) (ha : SSs X ks a f) (hb : SSs X ks b g) : SS X ks (.If c a b pos) (fIfS fc f g) := by
  obtain ⟨t0, p0, s0⟩ := hc.ex
  obtain ⟨t, p, s⟩ := ha.ex
  obtain ⟨t', p', s'⟩ := hb.ex
  refine ⟨_, ps_if p0 p p', ?_⟩
  intro σ H env l o h e D post
  obtain ⟨⟨k, e1⟩, ea, e⟩ := Res.bind_ok e
  refine s0 σ H env l k e1 h ea _ fun H1 h1 => ?_
  cases k with
  | true => exact iteT (s σ H1 e1 l o h1 e D post)
  | false => exact iteF (s' σ H1 e1 l o h1 e D post)

/-! ### while -/
def whileF (c : EvT) (b : EvS) : Nat → EvS
  | 0, _ => .bad
  | n + 1, env => do
    let (k, e1) ← c env
    if k = true then
      match ← b e1 with
      | .nx e2 => whileF c b n e2
      | .ct e2 => whileF c b n e2
      | .bk e2 => .ok (.nx e2)
      | .rt r e2 => .ok (.rt r e2)
    else .ok (.nx e1)
def fWhile (fuel : Lo → Nat) (c : EvT) (b : EvS) : EvS := fun env => whileF c b (fuel env) env
theorem ss_while {c : Expr} {fc : EvT} (fuel : Lo → Nat) (hp : PassesOwn (model X.prog X.w) X.A X.env X.xe) (hc : ST X c fc) (hb : SSs X ks body f) : SS X ks (.While c body [] pos) (fWhile fuel fc f) := by
  obtain ⟨t0, p0, s0⟩ := hc.ex
  obtain ⟨t, p, s⟩ := hb.ex
  refine ⟨_, ps_while hp p0 p, ?_⟩
  intro σ H env l o h e D post
  refine ⟨fun m σ' H' => KeepEq ks σ σ' ∧ ∃ env', Hold X.K X.mg H' σ' env' l ∧ whileF fc f m env' = .ok o, ⟨fuel env, .refl, env, h, e⟩, ?_⟩
  rintro m σ1 H1 ⟨k1, env1, h1, e1⟩
  cases m with
  | zero => cases e1
  | succ m =>
    unfold whileF at e1
    obtain ⟨⟨k, e2⟩, ea, e1⟩ := Res.bind_ok e1
    refine s0 σ1 H1 env1 l k e2 h1 ea _ fun H2 h2 => ?_
    cases k with
    | false => cases e1; exact iteF (post σ1 H2 h2 k1)
    | true =>
      refine iteT ⟨fun σ' H' => KeepEq ks σ σ' ∧ ∃ env', Hold X.K X.mg H' σ' env' l ∧ whileF fc f m env' = .ok o, fun σ' H' q => ⟨m, Nat.lt_succ_self m, q⟩, ?_⟩
      simp only [if_true] at e1
      obtain ⟨ob, eb, e1⟩ := Res.bind_ok e1
      refine s σ1 H2 e2 l ob h2 eb _ ?_
      cases ob with
      | nx e3 => exact fun σ' H' h' k' => ⟨k1.trans k', e3, h', e1⟩
      | ct e3 => exact fun σ' H' h' k' => ⟨k1.trans k', e3, h', e1⟩
      | bk e3 => cases e1; exact fun σ' H' h' k' => post σ' H' h' (k1.trans k')
      | rt r e3 => cases e1; exact fun v σ' H' h' n k' => post v σ' H' h' n (k1.trans k')
end
end FL

/-! FL6: targets, what is walked, for, comprehensions -/
namespace FL
open PySem PySem.Spec PyProof.Rows L2

/-! ### targets -/
inductive Tgt where
  | nm (i : Nat)
  | tp (is : List Nat)
def Tgt.slots : Tgt → List Nat
  | .nm i => [i]
  | .tp is => is
def setAll (env : Lo) : List Nat → List D → Option Lo
  | [], [] => some env
  | i :: is, d :: ds => if i < env.length then setAll (env.set i (.sh d)) is ds else none
  | _, _ => none
def bindT : Tgt → D → Lo → Option Lo
  | .nm i, d, env => if i < env.length then some (env.set i (.sh d)) else none
  | .tp is, .tuple ds, env => setAll env is ds
  | _, _, _ => none
def OffEq (is : List Nat) (σ σ' : L2.St) : Prop := σ'.length = σ.length ∧ ∀ k, k ∉ is → σ'[k]? = σ[k]?
def SemG (K : PySem.W.Frag) (mg : Str → Option Value) (g : TG) (tg : Tgt) : Prop :=
  ∀ (σ : L2.St) (H : Hp) (env env' : Lo) (l : List Item) (v : V) (d : D), Hold K mg H σ env ((some v, .sh d) :: l) → bindT tg d env = some env' → ∀ Q : L2.St → Hp → Prop, (∀ σ', Hold K mg H σ' env' l → OffEq tg.slots σ σ' → Q σ' H) → g v σ H Q
theorem semg_nm {K : PySem.W.Frag} {mg : Str → Option Value} {i : Nat} : SemG K mg (gName i) (.nm i) := by
  intro σ H env env' l v d h e Q q
  have e : (if i < env.length then some (env.set i (.sh d)) else none) = some env' := e
  split at e
  · rename_i hi
    cases e
    refine q _ ⟨by rw [List.length_set, List.length_set]; exact h.len, Rep.asg (h.rep.perm perm_mid.symm) h.len hi⟩ ⟨by rw [List.length_set], fun k hk => List.getElem?_set_ne (fun z => hk (by simp [Tgt.slots, z]))⟩
  · cases e
def gNames : List Nat → TGs
  | [] => gNil
  | i :: is => gCons (gName i) (gNames is)
theorem setAll_ok {K : PySem.W.Frag} {mg : Str → Option Value} {H : Hp} {l : List Item} : ∀ {is : List Nat} {ds : List D} {σ : L2.St} {env env' : Lo} {vs : List V} {Q : L2.St → Hp → Prop}, vs.length = ds.length → Hold K mg H σ env ((vs.map some).zip (ds.map Sl.sh) ++ l) → setAll env is ds = some env' →
    (∀ σ', Hold K mg H σ' env' l → OffEq is σ σ' → Q σ' H) → gNames is vs σ H Q
  | [], [], σ, env, env', vs, Q, hl, h, e, q => by
    cases e
    have : vs = [] := by simpa using hl
    subst this
    exact ⟨rfl, q σ h ⟨rfl, fun _ _ => rfl⟩⟩
  | [], _ :: _, _, _, _, _, _, _, _, e, _ => by cases e
  | _ :: _, [], _, _, _, _, _, _, _, e, _ => by cases e
  | i :: is, d :: ds, σ, env, env', vs, Q, hl, h, e, q => by
    cases vs with
    | nil => simp at hl
    | cons v vs =>
      unfold setAll at e
      split at e
      · rename_i hi
        have h0 : Rep K mg H ((some v, Sl.sh d) :: (σ.zip env ++ ((vs.map some).zip (ds.map Sl.sh) ++ l))) := h.rep.perm perm_mid.symm
        refine ⟨v, vs, rfl, setAll_ok (σ := σ.set i (some v)) (env := env.set i (.sh d)) (by simpa using hl) ⟨by rw [List.length_set, List.length_set]; exact h.len, h0.asg h.len hi⟩ e fun σ' h' o => q σ' h' ⟨by rw [o.1, List.length_set], fun k hk => ?_⟩⟩
        rw [List.mem_cons, not_or] at hk
        rw [o.2 k hk.2, List.getElem?_set_ne (fun z => hk.1 z.symm)]
      · cases e
theorem dtAll_items {K : PySem.W.Frag} {mg : Str → Option Value} {G H : Hp} {L : List Item} {os : List Addr} (h : Rp K mg G H L os) : ∀ {vs : List V} {ds : List D}, DtAll K G vs ds → Rp K mg G H ((vs.map some).zip (ds.map Sl.sh) ++ L) os
  | _, _, .nil => h
  | _, _, .cons r t => (dtAll_items h t).sh r
theorem semg_tp {K : PySem.W.Frag} {mg : Str → Option Value} {is : List Nat} : SemG K mg (gTup K is.length (gNames is)) (.tp is) := by
  intro σ H env env' l v d h e Q q
  cases d <;> first | (cases e; done) | skip
  rename_i ds
  obtain ⟨G, os, rp⟩ := h.rep
  obtain ⟨v', ev, dd⟩ := rp.shOf (List.mem_append_right _ List.mem_cons_self)
  cases ev
  cases dd with
  | @tup a xs _ hs ha =>
    have e : setAll env is ds = some env' := e
    have hlen : ∀ {is : List Nat} {ds : List D} {env env' : Lo}, setAll env is ds = some env' → ds.length = is.length := by
      intro is
      induction is with
      | nil => intro ds env env' e; cases ds <;> first | rfl | cases e
      | cons i is ih =>
        intro ds env env' e
        cases ds with
        | nil => cases e
        | cons d ds =>
          unfold setAll at e
          split at e
          · simp [ih e]
          · cases e
    refine ⟨a, xs, rfl, .of (rp.same _ _ hs), by rw [ha.length, hlen e], ?_⟩
    refine setAll_ok (by rw [ha.length]) ⟨h.len, ?_⟩ e q
    have := dtAll_items rp ha
    refine Rep.perm (Rep.tail (Rep.perm ⟨_, _, this⟩ (l' := (some (V.ref a), Sl.sh (.tuple ds)) :: ((xs.map some).zip (ds.map Sl.sh) ++ (σ.zip env ++ l))) ?_)) ?_
    · exact (List.Perm.append_left _ perm_mid.symm).trans perm_mid.symm
    · rw [← List.append_assoc, ← List.append_assoc]
      exact List.perm_append_comm.append_right l

/-! ### what is walked -/
abbrev EvI := Lo → Res (List Sl × List D × Lo)
def ItOk (K : PySem.W.Frag) (mg : Str → Option Value) (J : It) (its : List Item) (ds : List D) : Prop :=
  ∀ (i : Nat) (G H : Hp) (os : List Addr) (L : List Item), Rp K mg G H L os → (∀ it ∈ its, it ∈ L) →
    (∀ d, ds[i]? = some d → J.go i H ∧ ∀ x H', J.yld i H x H' → ∃ G', Grow G H G' H' ∧ Dt K G' x d) ∧ (i = ds.length → J.stop i H)
def SemI (K : PySem.W.Frag) (mg : Str → Option Value) (w : TI) (f : EvI) : Prop :=
  ∀ (σ : L2.St) (H : Hp) (env : Lo) (l : List Item) (ks : List Sl) (ds : List D) (env' : Lo), Hold K mg H σ env l → f env = .ok (ks, ds, env') → ∀ R : It → Hp → Prop,
    (∀ J vs H', HoldA K mg H' σ env' l vs ks → ItOk K mg J ((vs.map some).zip ks) ds → R J H') → w σ H R
structure SI (X : Cx) (tg e : Expr) (f : EvI) : Prop where
  ex : ∃ w, PI X tg e w ∧ SemI X.K X.mg w f
theorem HoldV.toA {K : PySem.W.Frag} {mg : Str → Option Value} {H : Hp} {σ : L2.St} {env : Lo} {l : List Item} {v : V} {r : Sl} (h : HoldV K mg H σ env l v r) : HoldA K mg H σ env l [v] [r] :=
  ⟨h.len, h.rep, rfl, fun k v' r' e1 e2 => by
    cases k with
    | zero => simp at e1 e2; subst e1; subst e2; exact h.vw
    | succ k => simp at e1⟩
theorem itok_list {K : PySem.W.Frag} {mg : Str → Option Value} {v : V} {ds : List D} {a : Addr} (hv : v = .ref a) {s : Sl} (hs : s = .sh (.list ds) ∨ s = .ol ds) : ItOk K mg (Itl K a) [(some v, s)] ds := by
  intro i G H os L rp hm
  have hm1 : (some v, s) ∈ L := hm _ (by simp)
  have key : ∃ vs, SqL K H a vs ∧ DtAll K G vs ds := by
    subst hv
    rcases hs with rfl | rfl
    · obtain ⟨v', e, d⟩ := rp.shOf hm1
      cases e
      cases d with
      | lst h1 h2 => exact ⟨_, .of (rp.same _ _ h1), h2⟩
    · obtain ⟨o, ri⟩ := rp.rl.mem hm1
      obtain ⟨p, vs, e, _, hp, ha⟩ := ri.ol_inv
      cases e
      exact ⟨vs, .of hp, ha⟩
  obtain ⟨vs, h1, h2⟩ := key
  refine ⟨fun d hd => ?_, fun hi => ⟨vs, h1, by rw [h2.length]; omega⟩⟩
  obtain ⟨x, e1, e2⟩ := h2.get hd
  refine ⟨⟨vs, x, h1, e1⟩, fun y H' hy => ?_⟩
  obtain ⟨rfl, hy⟩ := hy
  have := hy vs h1
  rw [e1] at this; cases this
  exact ⟨G, .refl, e2⟩
theorem itok_tup {K : PySem.W.Frag} {mg : Str → Option Value} {v : V} {ds : List D} {a : Addr} (hv : v = .ref a) : ItOk K mg (Itt K a) [(some v, .sh (.tuple ds))] ds := by
  intro i G H os L rp hm
  have hm1 : (some v, Sl.sh (.tuple ds)) ∈ L := hm _ (by simp)
  have key : ∃ vs, SqT K H a vs ∧ DtAll K G vs ds := by
    subst hv
    obtain ⟨v', e, d⟩ := rp.shOf hm1
    cases e
    cases d with
    | tup h1 h2 => exact ⟨_, .of (rp.same _ _ h1), h2⟩
  obtain ⟨vs, h1, h2⟩ := key
  refine ⟨fun d hd => ?_, fun hi => ⟨vs, h1, by rw [h2.length]; omega⟩⟩
  obtain ⟨x, e1, e2⟩ := h2.get hd
  refine ⟨⟨vs, x, h1, e1⟩, fun y H' hy => ?_⟩
  obtain ⟨rfl, hy⟩ := hy
  have := hy vs h1
  rw [e1] at this; cases this
  exact ⟨G, .refl, e2⟩
/-- a list or a tuple by its value -/
def fIter (fa : EvF) : EvI := fun env => do
  let (r, e1) ← fa env
  let (d, e2) ← Res.ofO (freezeR e1 r)
  match d with
  | .list ds => .ok ([.sh (.list ds)], ds, e2)
  | .tuple ds => .ok ([.sh (.tuple ds)], ds, e2)
  | _ => .bad
def iSeq (K : PySem.W.Frag) (te : TE) : TI := fun σ H R => te σ H fun x H1 => (∃ a, x = .ref a ∧ (∃ xs, SqL K H1 a xs) ∧ R (Itl K a) H1) ∨ ∃ a, x = .ref a ∧ (∃ xs, SqT K H1 a xs) ∧ R (Itt K a) H1
section
variable {X : Cx} {tg e : Expr} {fa fb : EvF} {te : TE}
theorem pi_seq (he : PE X e te) : PI X tg e (iSeq X.K te) := by
  refine ⟨fun pins s σ H R I h => thn (he.run pins s σ H _ I h) fun v s1 ⟨x, H1, I1, rx, q1⟩ => ?_⟩
  have fr : ∀ b ∈ [s1.heap.objs.size], FpOk X pins H1 b := fun b hb => by
    rw [List.mem_singleton] at hb
    rw [hb]
    exact I1.fpOk (Nat.le_refl _) (I1.hok.fresh (Nat.le_refl _))
  rcases q1 with ⟨a, rfl, ⟨xs, hq⟩, q⟩ | ⟨a, rfl, ⟨xs, hq⟩, q⟩
  · cases rx
    obtain ⟨its, _, pl, _⟩ := I1.list hq
    exact wpAny_pyIter_list pl.isList ⟨_, [s1.heap.objs.size], _, Itl X.K a, H1, rfl, I1.kept (t' := s1.toks) fun b o eb => Heap.get?_push_of_some _ eb, turn_list a _, ⟨_, Heap.get?_push_size _ rfl, rfl, rfl⟩, fr, q⟩
  · cases rx
    obtain ⟨its, _, pt, _⟩ := I1.tuple hq
    exact wpAny_pyIter_tuple (show s1.heap.IsTuple a its.toArray from pt) ⟨_, [s1.heap.objs.size], _, Itt X.K a, H1, rfl, I1.kept (t' := s1.toks) fun b o eb => Heap.get?_push_of_some _ eb, turn_tuple a _, ⟨_, Heap.get?_push_size _ rfl, rfl, rfl⟩, fr, q⟩
theorem si_val (he : SE X e fa) : SI X tg e (fIter fa) := by
  obtain ⟨t, p, s⟩ := he.ex
  refine ⟨_, pi_seq p, ?_⟩
  intro σ H env l ks ds env' h e R q
  unfold fIter at e
  obtain ⟨⟨r, e1⟩, ea, e⟩ := Res.bind_ok e
  obtain ⟨⟨d, e2⟩, eb, e⟩ := Res.bind_ok e
  replace eb := Res.ofO_ok eb
  refine s σ H env l r e1 h ea _ fun v H1 h1 => ?_
  have h2 := h1.freeze eb
  obtain ⟨G, os, rp⟩ := h2.rep
  obtain ⟨v', ev, dd⟩ := rp.shOf List.mem_cons_self
  cases ev
  cases dd <;> first | (cases e; done) | skip
  case lst a xs ds' hs ha =>
    cases e
    exact .inl ⟨a, rfl, ⟨xs, .of (rp.same _ _ hs)⟩, q _ [_] H1 h2.toA (itok_list rfl (.inl rfl))⟩
  case tup a xs ds' hs ha =>
    cases e
    exact .inr ⟨a, rfl, ⟨xs, .of (rp.same _ _ hs)⟩, q _ [_] H1 h2.toA (itok_tup rfl)⟩
/-- range(n), range(a, b) -/
def rngD (lo : Int) (n : Nat) : List D := (List.range n).map fun (i : Nat) => PyData.int (lo + i)
theorem itok_rng {K : PySem.W.Frag} {mg : Str → Option Value} {lo : Int} {n : Nat} : ItOk K mg (Itr lo n) [] (rngD lo n) := by
  intro i G H os L rp _
  have hl : (rngD lo n).length = n := by simp [rngD]
  refine ⟨fun d hd => ?_, fun hi => by rw [hl] at hi; show n ≤ i; omega⟩
  have hi : i < n := by
    have := (List.getElem?_eq_some_iff.mp hd).1
    rw [hl] at this; exact this
  refine ⟨hi, fun y H' hy => ?_⟩
  obtain ⟨rfl, rfl⟩ := hy
  have : d = .int (lo + i) := by
    unfold rngD at hd
    rw [List.getElem?_map, List.getElem?_range hi] at hd
    cases hd; rfl
  subst this
  exact ⟨G, .refl, .int _⟩
def fRng (fs : EvA) : EvI := fun env => do
  let (rs, e1) ← fs env
  match rs with
  | [.sh (.int j)] => if -(2 ^ 62) ≤ j ∧ j < 2 ^ 62 then .ok ([], rngD 0 j.toNat, e1) else .bad
  | [.sh (.int i), .sh (.int j)] => if -(2 ^ 62) ≤ i ∧ i < 2 ^ 62 ∧ -(2 ^ 62) ≤ j ∧ j < 2 ^ 62 then .ok ([], rngD i (j - i).toNat, e1) else .bad
  | _ => .bad
theorem HoldA.none {K : PySem.W.Frag} {mg : Str → Option Value} {H : Hp} {σ : L2.St} {env : Lo} {l : List Item} {vs : List V} {rs : List Sl} (h : HoldA K mg H σ env l vs rs) : HoldA K mg H σ env l [] [] :=
  ⟨h.len, Rep.dropA _ h.rep, rfl, fun k v r e => by simp at e⟩
theorem HoldA.int1 {K : PySem.W.Frag} {mg : Str → Option Value} {H : Hp} {σ : L2.St} {env : Lo} {l : List Item} {vs : List V} {ns : List Int} (h : HoldA K mg H σ env l vs (ns.map fun i => Sl.sh (.int i))) : vs = ns.map V.int := by
  obtain ⟨G, os, rp⟩ := h.rep
  have e : (ns.map fun i => Sl.sh (.int i)) = (ns.map PyData.int).map Sl.sh := by simp
  have hl : vs.length = (ns.map PyData.int).length := by have := h.alen; simpa using this
  rw [e] at rp
  exact (rp.all hl fun it hi => List.mem_append_left _ hi).of_ints
theorem si_rng1 {a : Expr} {fs : EvA} {p pos : Pos} (hg : Gl X "range") (hm : X.mg "range" = none) (ha : SA X [a] fs) (hs : starEach [a] X.env = [(false, eval a X.env)] := by rfl) (hn : ArN fs 1 := by exact ar_cons ar_nil) : SI X tg (.Call (.Name "range" p) [a] [] pos) (fRng fs) := by
  obtain ⟨t, p', s⟩ := ha.ex
  refine ⟨_, pi_range1 hg hm p' hs, ?_⟩
  intro σ H env l ks ds env' h e R q
  unfold fRng at e
  obtain ⟨⟨rs, e1⟩, ea, e⟩ := Res.bind_ok e
  have har := hn.eq _ _ _ ea
  refine s σ H env l rs e1 h ea _ fun vs H1 h1 => ?_
  dsimp only at e
  split at e
  · rename_i j
    split at e
    · rename_i hj
      cases e
      have : vs = [V.int j] := HoldA.int1 (ns := [j]) h1
      subst this
      exact ⟨j, rfl, hj.1, hj.2, q _ [] H1 h1.none itok_rng⟩
    · cases e
  · simp at har
  · cases e
theorem si_rng2 {a b : Expr} {fs : EvA} {p pos : Pos} (hg : Gl X "range") (hm : X.mg "range" = none) (ha : SA X [a, b] fs) (hs : starEach [a, b] X.env = [(false, eval a X.env), (false, eval b X.env)] := by rfl) (hs2 : starEach [b] X.env = [(false, eval b X.env)] := by rfl) (hn : ArN fs 2 := by exact ar_cons (ar_cons ar_nil)) :
    SI X tg (.Call (.Name "range" p) [a, b] [] pos) (fRng fs) := by
  obtain ⟨t, p', s⟩ := ha.ex
  refine ⟨_, pi_range2 hg hm p' hs hs2, ?_⟩
  intro σ H env l ks ds env' h e R q
  unfold fRng at e
  obtain ⟨⟨rs, e1⟩, ea, e⟩ := Res.bind_ok e
  have har := hn.eq _ _ _ ea
  refine s σ H env l rs e1 h ea _ fun vs H1 h1 => ?_
  dsimp only at e
  split at e
  · simp at har
  · rename_i i j
    split at e
    · rename_i hj
      cases e
      have : vs = [V.int i, V.int j] := HoldA.int1 (ns := [i, j]) h1
      subst this
      exact ⟨i, j, rfl, hj, q _ [] H1 h1.none itok_rng⟩
    · cases e
  · cases e
end

/-! ### for -/
def loopF (tg : Tgt) (b : EvS) : List D → EvS
  | [], env => .ok (.nx env)
  | d :: ds, env => do
    let e1 ← Res.ofO (bindT tg d env)
    match ← b e1 with
    | .nx e2 => loopF tg b ds e2
    | .ct e2 => loopF tg b ds e2
    | .bk e2 => .ok (.nx e2)
    | .rt r e2 => .ok (.rt r e2)
def fFor (fi : EvI) (tg : Tgt) (b : EvS) : EvS := fun env => do
  let (_, ds, e1) ← fi env
  loopF tg b ds e1
theorem keep_off {ks is : List Nat} {σ σ' : L2.St} (h : ∀ k ∈ ks, k ∉ is) (o : OffEq is σ σ') : KeepEq ks σ σ' := fun k hk => o.2 k (h k hk)
theorem Rep.dropM {K : PySem.W.Frag} {mg : Str → Option Value} {H : Hp} {A M L : List Item} (h : Rep K mg H (A ++ (M ++ L))) : Rep K mg H (A ++ L) := by
  refine Rep.dropA M (h.perm ?_)
  rw [← List.append_assoc, ← List.append_assoc]
  exact List.perm_append_comm.append_right L
theorem sem_loop {K : PySem.W.Frag} {mg : Str → Option Value} {ks : List Nat} {g : TG} {tg : Tgt} {tb : TS} {b : EvS} (sg : SemG K mg g tg) (sb : SemS K mg ks tb b) (hk : ∀ k ∈ ks, k ∉ tg.slots) {J : It} {its : List Item} {ds : List D} (ok : ItOk K mg J its ds)
    {σ : L2.St} {H : Hp} {env : Lo} {l : List Item} {o : Out} (h : Hold K mg H σ env (its ++ l)) (e : loopF tg b ds env = .ok o) {D : Ends} (post : PostS K mg D ks σ (its ++ l) o) :
    ∃ W : Nat → Nat → L2.St → Hp → Prop, (∃ m, W 0 m σ H) ∧ ∀ i m σ H, W i m σ H →
      (J.stop i H ∧ D.nx σ H) ∨ (J.go i H ∧ ∃ N : L2.St → Hp → Prop, (∀ σ' H', N σ' H' → ∃ m', m' < m ∧ W (i + 1) m' σ' H') ∧ ∀ x H', J.yld i H x H' → g x σ H' fun σ2 H2 => tb { D with nx := N, ct := N, bk := D.nx } σ2 H2) := by
  refine ⟨fun i m σ' H' => m + i = ds.length ∧ KeepEq ks σ σ' ∧ ∃ env', Hold K mg H' σ' env' (its ++ l) ∧ loopF tg b (ds.drop i) env' = .ok o, ⟨ds.length, rfl, .refl, env, h, e⟩, ?_⟩
  rintro i m σ1 H1 ⟨hm, k1, env1, h1, e1⟩
  obtain ⟨G, os, rp⟩ := h1.rep
  obtain ⟨okg, oks⟩ := ok i G H1 os _ rp fun it hi => List.mem_append_right _ (List.mem_append_left _ hi)
  by_cases hi : i < ds.length
  · have hd : ds[i]? = some ds[i] := List.getElem?_eq_getElem hi
    obtain ⟨go, yl⟩ := okg _ hd
    rw [List.drop_eq_getElem_cons hi] at e1
    unfold loopF at e1
    obtain ⟨e2, eb, e1⟩ := Res.bind_ok e1
    replace eb := Res.ofO_ok eb
    obtain ⟨ob, ec, e1⟩ := Res.bind_ok e1
    refine .inr ⟨go, fun σ' H' => KeepEq ks σ σ' ∧ ∃ env', Hold K mg H' σ' env' (its ++ l) ∧ loopF tg b (ds.drop (i + 1)) env' = .ok o, fun σ' H' q => ⟨m - 1, by omega, by omega, q⟩, fun x H2 hy => ?_⟩
    obtain ⟨G', gr, dd⟩ := yl x H2 hy
    have h2 : Hold K mg H2 σ1 env1 ((some x, .sh ds[i]) :: (its ++ l)) := ⟨h1.len, Rep.perm ⟨_, _, (rp.grow gr).sh dd⟩ perm_mid⟩
    refine sg σ1 H2 env1 e2 _ x _ h2 eb _ fun σ2 h3 off => ?_
    have k2 : KeepEq ks σ σ2 := k1.trans (keep_off hk off)
    refine sb σ2 H2 e2 _ ob h3 ec _ ?_
    cases ob with
    | nx e3 => exact fun σ' H' h' k' => ⟨k2.trans k', e3, h', e1⟩
    | ct e3 => exact fun σ' H' h' k' => ⟨k2.trans k', e3, h', e1⟩
    | bk e3 => cases e1; exact fun σ' H' h' k' => post σ' H' h' (k2.trans k')
    | rt r e3 => cases e1; exact fun v σ' H' h' n k' => post v σ' H' h' n (k2.trans k')
  · rw [List.drop_eq_nil_of_le (by omega)] at e1
    cases e1
    exact .inl ⟨oks (by omega), post σ1 H1 h1 k1⟩
theorem PostS.more {K : PySem.W.Frag} {mg : Str → Option Value} {D : Ends} {ks : List Nat} {σ : L2.St} {M l : List Item} {o : Out} (p : PostS K mg D ks σ l o) : PostS K mg D ks σ (M ++ l) o := by
  have hh : ∀ {H' : Hp} {σ' : L2.St} {e : Lo}, Hold K mg H' σ' e (M ++ l) → Hold K mg H' σ' e l := fun h => ⟨h.len, h.rep.dropM⟩
  cases o with
  | nx e => exact fun σ' H' h q => p σ' H' (hh h) q
  | bk e => exact fun σ' H' h q => p σ' H' (hh h) q
  | ct e => exact fun σ' H' h q => p σ' H' (hh h) q
  | rt r e => exact fun v σ' H' h n q => p v σ' H' ⟨h.len, by
      have := h.rep
      rw [← List.cons_append] at this
      have q := this.dropM
      rw [List.cons_append] at q
      exact q, h.vw⟩ n q
section
variable {X : Cx} {ks : List Nat} {tg iter : Expr} {body : List Stmt} {fi : EvI} {b : EvS} {pos : Pos} {g : TG} {tt : Tgt}
theorem ss_for (hp : PassesOwn (model X.prog X.w) X.A X.env X.xe) (hc : X.calm = true) (hi : SI X tg iter fi) (hg : PG X tg g) (sg : SemG X.K X.mg g tt) (hb : SSs X ks body b) (hk : ∀ k ∈ ks, k ∉ tt.slots := by decide)
    (hs : ∀ x, foldedSetIterable iter X.env x = pure x := by intro _; rfl) : SS X ks (.For tg iter body [] pos) (fFor fi tt b) := by
  obtain ⟨w, pi, si⟩ := hi.ex
  obtain ⟨t, p, s⟩ := hb.ex
  refine ⟨_, ps_for hp hc pi hg p hs, ?_⟩
  intro σ H env l o h e D post
  unfold fFor at e
  obtain ⟨⟨ksl, ds, e1⟩, ea, e⟩ := Res.bind_ok e
  refine si σ H env l ksl ds e1 h ea _ fun J vs H1 h1 ok => ?_
  refine sem_loop sg s hk ok ⟨h1.len, ?_⟩ e post.more
  refine h1.rep.perm ?_
  rw [← List.append_assoc, ← List.append_assoc]
  exact List.perm_append_comm.append_right l
end
end FL

/-! FL7: comprehensions, a def's promise, zip, changes of one's own -/
namespace FL
open PySem PySem.Spec PyProof.Rows L2

/-! ### the reading that a function makes by itself -/
def tCan (K : PySem.W.Frag) (mg : Str → Option Value) (f : EvF) : TE := fun σ H Q => ∃ (env : Lo) (l : List Item) (r : Sl) (env' : Lo), Hold K mg H σ env l ∧ f env = .ok (r, env') ∧ ∀ v H', HoldV K mg H' σ env' l v r → Q v H'
def tCanT (K : PySem.W.Frag) (mg : Str → Option Value) (f : EvT) : TT := fun σ H Q => ∃ (env : Lo) (l : List Item) (b : Bool) (env' : Lo), Hold K mg H σ env l ∧ f env = .ok (b, env') ∧ ∀ H', Hold K mg H' σ env' l → Q b H'
theorem SE.canon {X : Cx} {e : Expr} {f : EvF} (h : SE X e f) : PE X e (tCan X.K X.mg f) := by
  obtain ⟨t, p, s⟩ := h.ex
  exact ⟨fun pins s' σ H Q I ⟨env, l, r, env', h1, h2, h3⟩ => p.run pins s' σ H Q I (s σ H env l r env' h1 h2 Q h3)⟩
theorem ST.canon {X : Cx} {e : Expr} {f : EvT} (h : ST X e f) : PT X e (tCanT X.K X.mg f) := by
  obtain ⟨t, p, s⟩ := h.ex
  exact ⟨fun pins s' σ H Q I ⟨env, l, r, env', h1, h2, h3⟩ => p.run pins s' σ H Q I (s σ H env l r env' h1 h2 Q h3)⟩

/-! ### comprehensions -/
def wipeE (env : Lo) : List Nat → Lo
  | [] => env
  | v :: vs => (wipeE env vs).set v .no
def restoreE (env : Lo) : List Nat → Lo → Lo
  | [], e => e
  | j :: js, e => restoreE env js (e.set j ((wipeE env js)[j]?.getD .no))
theorem wipeE_length (env : Lo) : ∀ vs : List Nat, (wipeE env vs).length = env.length
  | [] => rfl
  | v :: vs => by unfold wipeE; rw [List.length_set, wipeE_length env vs]
section
variable {K : PySem.W.Frag} {mg : Str → Option Value} {H : Hp} {σ : L2.St} {env : Lo} {l : List Item}
/-- a slot's item given up -/
theorem Hold.give (h : Hold K mg H σ env l) (j : Nat) : Hold K mg H (σ.set j none) (env.set j .no) l := by
  refine ⟨by rw [List.length_set, List.length_set]; exact h.len, ?_⟩
  by_cases hj : j < env.length
  · have e1 : σ[j]? = some (σ[j]'(by have := h.len; omega)) := List.getElem?_eq_getElem _
    have e2 : env[j]? = some env[j] := List.getElem?_eq_getElem hj
    obtain ⟨R, p1, p2, _⟩ := zip_perm e1 e2
    have q : Rep K mg H ((σ[j]'(by have := h.len; omega), env[j]) :: (R ++ l)) := h.rep.perm (p1.append_right l)
    exact (q.tail.no none).perm ((p2 none .no).append_right l).symm
  · rw [List.set_eq_of_length_le (by have := h.len; omega), List.set_eq_of_length_le (by omega)]
    exact h.rep
theorem Hold.wipe (h : Hold K mg H σ env l) : ∀ vs : List Nat, Hold K mg H (L2.wipe σ vs) (wipeE env vs) l
  | [] => h
  | v :: vs => (h.wipe vs).give v
/-- the block's own slots: what they held is put aside -/
theorem Hold.aside (h : Hold K mg H σ env l) : ∀ vs : List Nat, (∀ j ∈ vs, j < env.length) → ∃ sv : List Item, Hold K mg H (L2.wipe σ vs) (wipeE env vs) (sv ++ l) ∧
    ∀ H' env' L, Hold K mg H' (L2.wipe σ vs) env' (sv ++ L) → Hold K mg H' σ (restoreE env vs env') L := by
  intro vs
  induction vs with
  | nil => intro _; exact ⟨[], h, fun H' env' L h' => h'⟩
  | cons j js ih =>
    intro hlt
    obtain ⟨sv, h1, h2⟩ := ih fun i hi => hlt i (List.mem_cons_of_mem _ hi)
    have hj : j < (wipeE env js).length := by rw [wipeE_length]; exact hlt j List.mem_cons_self
    have e2 : (wipeE env js)[j]? = some (wipeE env js)[j] := List.getElem?_eq_getElem hj
    obtain ⟨ov, e1, rp⟩ := h1.take e2
    refine ⟨(ov, (wipeE env js)[j]) :: sv, ?_, fun H' env' L h' => ?_⟩
    · have hh : Hold K mg H (L2.wipe σ js) ((wipeE env js).set j .no) ((ov, (wipeE env js)[j]) :: (sv ++ l)) := ⟨by rw [List.length_set]; exact h1.len, rp.perm perm_mid⟩
      have := hh.give j
      rw [List.set_set] at this
      exact this
    · refine h2 H' _ L ?_
      have hlen : ((L2.wipe σ js).set j none).length = env'.length := h'.len
      rw [List.length_set] at hlen
      have hj2 : j < env'.length := by rw [← hlen, h1.len]; exact hj
      have hr : Rep K mg H' ((ov, (wipeE env js)[j]) :: (((L2.wipe σ js).set j none).zip env' ++ (sv ++ L))) := h'.rep.perm perm_mid.symm
      have e3 : ((L2.wipe σ js).set j none)[j]? = some none := List.getElem?_set_self (by omega)
      have e4 : env'[j]? = some env'[j] := List.getElem?_eq_getElem hj2
      obtain ⟨R, p1, p2, _⟩ := zip_perm e3 e4
      refine ⟨by rw [List.length_set]; exact hlen, ?_⟩
      rw [e2]
      have q : Rep K mg H' ((none, env'[j]) :: ((ov, (wipeE env js)[j]) :: (R ++ (sv ++ L)))) := hr.perm (((p1.append_right _).cons _).trans (.swap _ _ _))
      have q2 := q.tail.perm ((p2 ov (wipeE env js)[j]).append_right (sv ++ L)).symm
      rw [List.set_set] at q2
      have e5 : (L2.wipe σ js).set j ov = L2.wipe σ js := by
        apply List.ext_getElem?
        intro k
        by_cases hk : j = k
        · subst hk
          rw [List.getElem?_set_self (by rw [h1.len]; exact hj), e1]
        · rw [List.getElem?_set_ne hk]
      rw [e5] at q2
      exact q2
theorem wipe_get (σ : L2.St) (vs : List Nat) (k : Nat) : (L2.wipe σ vs)[k]? = if k ∈ vs then (if k < σ.length then some none else none) else σ[k]? := by
  induction vs with
  | nil => rfl
  | cons v vs ih =>
    show ((L2.wipe σ vs).set v none)[k]? = _
    by_cases h : v = k
    · subst h
      rw [if_pos List.mem_cons_self]
      split
      · rename_i hl
        exact List.getElem?_set_self (by rw [wipe_length]; exact hl)
      · rename_i hl
        rw [List.getElem?_eq_none (by rw [List.length_set, wipe_length]; omega)]
    · rw [List.getElem?_set_ne h, ih]
      have e : (k ∈ v :: vs) ↔ k ∈ vs := by simp [show ¬ k = v from fun z => h z.symm]
      simp only [e]
theorem wipe_off {σ2 : L2.St} {is vs : List Nat} (o : OffEq is (L2.wipe σ vs) σ2) (h : ∀ k ∈ is, k ∈ vs) : L2.wipe σ2 vs = L2.wipe σ vs := by
  apply List.ext_getElem?
  intro k
  have hl : σ2.length = σ.length := by rw [o.1, wipe_length]
  rw [wipe_get, wipe_get, hl]
  by_cases hk : k ∈ vs
  · rw [if_pos hk, if_pos hk]
  · rw [if_neg hk, if_neg hk, o.2 k (fun z => hk (h k z)), wipe_get, if_neg hk]
end
def compF (tg : Tgt) (ft : EvT) (fe : EvF) (own : List Nat) : List D → List D → Lo → Res (List D × Lo)
  | [], acc, env => .ok (acc, env)
  | d :: ds, acc, env => do
    let e1 ← Res.ofO (bindT tg d env)
    let (b, e2) ← ft e1
    if b = true then
      let (r, e3) ← fe e2
      let (d', e4) ← Res.ofO (freezeR e3 r)
      if acc.length < 16777216 then compF tg ft fe own ds (acc ++ [d']) (wipeE e4 own) else .bad
    else compF tg ft fe own ds acc (wipeE e2 own)
def fLc (fi : EvI) (tg : Tgt) (ft : EvT) (fe : EvF) (own : List Nat) : EvF := fun env => do
  let (_, ds, e1) ← fi env
  if ∀ j ∈ own, j < e1.length then
    let (acc, e2) ← compF tg ft fe own ds [] (wipeE e1 own)
    .ok (.ol acc, restoreE e1 own e2)
  else .bad
def fYes : EvT := fun env => .ok (true, env)
theorem semt_yes {K : PySem.W.Frag} {mg : Str → Option Value} : SemT K mg tYes fYes := fun σ H env l b env' h e Q q => by cases e; exact q H h
theorem semt_can {K : PySem.W.Frag} {mg : Str → Option Value} {f : EvT} : SemT K mg (tCanT K mg f) f := fun σ H env l b env' h e Q q => ⟨env, l, b, env', h, e, q⟩
theorem sem_lc {K : PySem.W.Frag} {mg : Str → Option Value} {w : TI} {fi : EvI} {g : TG} {tg : Tgt} {tt : TT} {ft : EvT} {fe : EvF} {own : List Nat} (si : SemI K mg w fi) (sg : SemG K mg g tg) (st : SemT K mg tt ft) (ho : ∀ k ∈ tg.slots, k ∈ own) :
    SemE K mg (tLc w g tt (tCan K mg fe) own) (fLc fi tg ft fe own) := by
  intro σ H env l r env' h e Q q
  unfold fLc at e
  obtain ⟨⟨ks, ds, e1⟩, ea, e⟩ := Res.bind_ok e
  dsimp only at e
  split at e
  · rename_i hown
    obtain ⟨⟨accF, e2⟩, eb, e⟩ := Res.bind_ok e
    cases e
    refine si σ H env l ks ds e1 h ea _ fun J vs H1 h1 ok => fun Dd hD => ?_
    -- the new list
    obtain ⟨G1, os1, rp1⟩ := h1.rep
    have h2 : Hold K mg (upd H1 Dd (.lst [])) σ e1 ((some (.ref Dd), .ol []) :: ((vs.map some).zip ks ++ l)) := ⟨h1.len, by
      have := Rp.newOl (K := K) (mg := mg) rp1 hD (.nil)
      refine Rep.perm ⟨_, _, this⟩ ?_
      refine List.Perm.trans (List.Perm.cons _ ?_) perm_mid
      rw [← List.append_assoc, ← List.append_assoc]
      exact List.perm_append_comm.append_right l⟩
    obtain ⟨sv, h3, back⟩ := h2.aside own hown
    refine ⟨fun i m H' => m + i = ds.length ∧ ∃ env3 acc, Hold K mg H' (L2.wipe σ own) env3 (sv ++ ((some (.ref Dd), .ol acc) :: ((vs.map some).zip ks ++ l))) ∧ compF tg ft fe own (ds.drop i) acc env3 = .ok (accF, e2), ⟨ds.length, rfl, _, [], h3, eb⟩, ?_⟩
    rintro i m H4 ⟨hm, env4, acc, h4, e4⟩
    obtain ⟨G4, os4, rp4⟩ := h4.rep
    obtain ⟨okg, oks⟩ := ok i G4 H4 os4 _ rp4 fun it hi => List.mem_append_right _ (List.mem_append_right _ (List.mem_cons_of_mem _ (List.mem_append_left _ hi)))
    by_cases hi : i < ds.length
    · have hd : ds[i]? = some ds[i] := List.getElem?_eq_getElem hi
      obtain ⟨go, yl⟩ := okg _ hd
      rw [List.drop_eq_getElem_cons hi] at e4
      unfold compF at e4
      obtain ⟨e5, ec, e4⟩ := Res.bind_ok e4
      replace ec := Res.ofO_ok ec
      obtain ⟨⟨b, e6⟩, et, e4⟩ := Res.bind_ok e4
      refine .inr ⟨go, fun H' => ∃ env3 acc, Hold K mg H' (L2.wipe σ own) env3 (sv ++ ((some (.ref Dd), .ol acc) :: ((vs.map some).zip ks ++ l))) ∧ compF tg ft fe own (ds.drop (i + 1)) acc env3 = .ok (accF, e2), fun H' q => ⟨m - 1, by omega, by omega, q⟩, fun x H5 hy => ?_⟩
      obtain ⟨G', gr, dd⟩ := yl x H5 hy
      have h5 : Hold K mg H5 (L2.wipe σ own) env4 ((some x, .sh ds[i]) :: (sv ++ ((some (.ref Dd), .ol acc) :: ((vs.map some).zip ks ++ l)))) := ⟨h4.len, Rep.perm ⟨_, _, (rp4.grow gr).sh dd⟩ perm_mid⟩
      refine sg _ H5 env4 e5 _ x _ h5 ec _ fun σ2 h6 off => ?_
      have hw : L2.wipe σ2 own = L2.wipe σ own := wipe_off off ho
      refine ⟨hw, ?_⟩
      refine st σ2 H5 e5 _ b e6 h6 et _ fun H6 h7 => ?_
      dsimp only at e4
      cases b with
      | false =>
        rw [if_neg Bool.false_ne_true] at e4
        refine iteF ⟨_, acc, ?_, e4⟩
        have := h7.wipe own
        rw [hw] at this
        exact this
      | true =>
        rw [if_pos rfl] at e4
        obtain ⟨⟨r, e7⟩, ef, e4⟩ := Res.bind_ok e4
        obtain ⟨⟨d', e8⟩, eg, e4⟩ := Res.bind_ok e4
        replace eg := Res.ofO_ok eg
        dsimp only at e4
        split at e4
        · rename_i hz
          refine iteT ⟨e6, _, r, e7, h7, ef, fun y H7 h8 => ?_⟩
          have h9 := h8.freeze eg
          -- the list at Dd
          have p1 : ((some y, Sl.sh d') :: (σ2.zip e8 ++ (sv ++ ((some (V.ref Dd), Sl.ol acc) :: ((vs.map some).zip ks ++ l))))).Perm ((some (V.ref Dd), Sl.ol acc) :: ((some y, Sl.sh d') :: (σ2.zip e8 ++ (sv ++ ((vs.map some).zip ks ++ l))))) := by
            refine List.Perm.trans (List.Perm.cons _ ?_) (.swap _ _ _)
            rw [← List.append_assoc, ← List.append_assoc]
            exact perm_mid.symm
          obtain ⟨G8, os8, rp8⟩ := h9.rep
          obtain ⟨os9, rp9⟩ := rp8.perm p1
          obtain ⟨o, ri⟩ := rp9.rl.mem List.mem_cons_self
          obtain ⟨p, ws, ev, _, hp, ha⟩ := ri.ol_inv
          cases ev
          obtain ⟨v', ev, dy⟩ := rp9.shOf (List.mem_cons_of_mem _ List.mem_cons_self)
          cases ev
          refine ⟨ws, hp, sizeL' (by rw [ha.length]; exact hz), wipeE e8 own, acc ++ [d'], ?_, e4⟩
          have rp10 := rp9.mut (s' := .ol (acc ++ [d'])) (o := .lst (ws ++ [y])) ol_own fun H' e => .bx (.ol e (ha.append (.one dy)))
          have h10 : Hold K mg (upd H7 Dd (.lst (ws ++ [y]))) σ2 e8 (sv ++ ((some (V.ref Dd), Sl.ol (acc ++ [d'])) :: ((vs.map some).zip ks ++ l))) := ⟨h9.len, by
            refine (Rep.tail (Rep.perm ⟨_, _, rp10⟩ (.swap _ _ _))).perm ?_
            exact perm_mid.trans (List.Perm.append_left _ perm_mid)⟩
          have := h10.wipe own
          rw [hw] at this
          exact this
        · cases e4
    · rw [List.drop_eq_nil_of_le (by omega)] at e4
      cases e4
      refine .inl ⟨oks (by omega), q _ H4 ?_⟩
      have hb := back H4 _ _ h4
      refine ⟨hb.len, ?_, fun _ z => by cases z⟩
      have : Rep K mg H4 ((some (V.ref Dd), Sl.ol accF) :: (σ.zip (restoreE e1 own e2) ++ ((vs.map some).zip ks ++ l))) := hb.rep.perm perm_mid.symm
      rw [← List.cons_append] at this
      have := this.dropM
      rw [List.cons_append] at this
      exact this
  · cases e
section
variable {X : Cx} {elt tg iter : Expr} {ifs : List Expr} {scope : Scope} {own : List (Str × Nat)} {pos spos py : Pos} {g : TG} {tt : Tgt} {fi : EvI} {ft : EvT} {fe : EvF} {i : Nat} {y : Str} {ks : List Nat}
/-- a clause's tests -/
structure STs (X : Cx) (ifs : List Expr) (f : EvT) : Prop where
  pts : PTs X ifs (tCanT X.K X.mg f)
theorem sts_nil : STs X [] fYes := ⟨⟨fun pins s σ H Q I ⟨env, l, b, env', h1, h2, h3⟩ => by cases h2; exact pts_nil.run pins s σ H Q I (h3 H h1)⟩⟩
theorem sts_one {c : Expr} (h : ST X c ft) : STs X [c] ft := ⟨pts_one h.canon⟩
theorem se_lc (hc : X.calm = true) (hN : X.N.Nodup) (hi : SI X tg iter fi) (ok : BlkOk X.N X.env.scope scope own) (sg : SemG X.K X.mg g tt) (ho : ∀ k ∈ tt.slots, k ∈ own.map (·.2))
    (hg : ∀ (s : Shared) (H : Hp) (C : Addr) (cl : List (Str × Addr)) (fp : List Addr), PG (X.blk s H scope (compEnvC scope cl C X.env) fp) tg g) (ht : ∀ (s : Shared) (H : Hp) (C : Addr) (cl : List (Str × Addr)) (fp : List Addr), STs (X.blk s H scope (compEnvC scope cl C X.env) fp) ifs ft)
    (he : ∀ (s : Shared) (H : Hp) (C : Addr) (cl : List (Str × Addr)) (fp : List Addr), SE (X.blk s H scope (compEnvC scope cl C X.env) fp) elt fe) (hs : ∀ x, foldedSetIterable iter X.env x = pure x := by intro _; rfl) :
    SE X (.ListComp elt [⟨tg, iter, ifs, 0⟩] scope pos) (fLc fi tt ft fe (own.map (·.2))) := by
  obtain ⟨w, p, s⟩ := hi.ex
  exact ⟨_, pe_lc hc hN p ok hg (fun s H C cl fp => (ht s H C cl fp).pts) (fun s H C cl fp => (he s H C cl fp).canon) hs, sem_lc s sg semt_can ho⟩
theorem ss_setLc (hc : X.calm = true) (hN : X.N.Nodup) (hy : X.N[i]? = some y) (hyl : X.env.scope.names.lookup y = some .local)
    (hsw : swapsWith (.ListComp elt [⟨tg, iter, ifs, 0⟩] scope pos) (some (.Name y py)) spos.line X.env = pure true) (hi : SI X tg iter fi) (ok : BlkOk X.N X.env.scope scope own) (sg : SemG X.K X.mg g tt) (ho : ∀ k ∈ tt.slots, k ∈ own.map (·.2))
    (hg : ∀ (s : Shared) (H : Hp) (C : Addr) (cl : List (Str × Addr)) (fp : List Addr), PG (X.blk s H scope (compEnvC scope cl C X.env) fp) tg g) (ht : ∀ (s : Shared) (H : Hp) (C : Addr) (cl : List (Str × Addr)) (fp : List Addr), STs (X.blk s H scope (compEnvC scope cl C X.env) fp) ifs ft)
    (he : ∀ (s : Shared) (H : Hp) (C : Addr) (cl : List (Str × Addr)) (fp : List Addr), SE (X.blk s H scope (compEnvC scope cl C X.env) fp) elt fe) (hk : i ∉ ks := by decide) (hs : ∀ x, foldedSetIterable iter X.env x = pure x := by intro _; rfl) :
    SS X ks (.Assign [.Name y py] (.ListComp elt [⟨tg, iter, ifs, 0⟩] scope pos) spos) (fAsg i (fLc fi tt ft fe (own.map (·.2)))) := by
  obtain ⟨w, p, s⟩ := hi.ex
  exact ⟨_, ps_setLc hc hN hy hyl hsw p ok hg (fun s H C cl fp => (ht s H C cl fp).pts) (fun s H C cl fp => (he s H C cl fp).canon) hs, sem_asg (sem_lc s sg semt_can ho) hk⟩
end

/-! ### a def's promise -/
def backArgs (io : List Nat) (n : Nat) (env : Lo) : List Sl := (List.range n).map fun k => if k ∈ io then env[k]?.getD .no else .no
/-- m slots, n parameters; io: the parameters that are never stored -/
def runFn (m n : Nat) (io : List Nat) (b : EvS) : Fn := fun args => do
  match ← b (args ++ List.replicate (m - n) .no) with
  | .nx env => if n ≤ env.length then .ok (.sh .none, backArgs io n env) else .bad
  | .rt r env => if n ≤ env.length then .ok (r, backArgs io n env) else .bad
  | _ => .bad
theorem zip_start {K : PySem.W.Frag} {mg : Str → Option Value} {H : Hp} : ∀ {vs : List V} {args : List Sl} {m : Nat} {l : List Item}, vs.length = args.length → Rep K mg H ((vs.map some).zip args ++ l) → Rep K mg H ((vs.map some ++ List.replicate m none).zip (args ++ List.replicate m Sl.no) ++ l) := by
  intro vs args m l hl h
  rw [List.zip_append (by simpa using hl), List.append_assoc]
  have key : ∀ (m : Nat) {M : List Item}, Rep K mg H M → Rep K mg H ((List.replicate m (none : Option V)).zip (List.replicate m Sl.no) ++ M) := by
    intro m
    induction m with
    | zero => intro M h; exact h
    | succ m ih => intro M h; rw [List.replicate_succ, List.replicate_succ, List.zip_cons_cons, List.cons_append]; exact (ih h).no none
  refine (key m h).perm ?_
  rw [← List.append_assoc, ← List.append_assoc]
  exact List.perm_append_comm.append_right l
theorem RL.sub {K : PySem.W.Frag} {mg : Str → Option Value} {G H : Hp} : ∀ {l l' : List Item}, l'.Sublist l → ∀ {os : List Addr}, RL K mg G H l os → ∃ os', RL K mg G H l' os' ∧ os'.Sublist os := by
  intro l l' h
  induction h with
  | slnil => intro os r; exact ⟨os, r, .refl _⟩
  | cons a _ ih =>
    intro os r
    cases r with
    | cons ri t =>
      obtain ⟨os', r', s⟩ := ih t
      exact ⟨os', r', s.trans (List.sublist_append_right _ _)⟩
  | cons_cons a _ ih =>
    intro os r
    cases r with
    | cons ri t =>
      obtain ⟨os', r', s⟩ := ih t
      exact ⟨_, .cons ri r', s.append_left _⟩
/-- back to the parameters -/
theorem back_items {K : PySem.W.Frag} {mg : Str → Option Value} {H : Hp} {vs : List V} {σ' : L2.St} {env' : Lo} {io : List Nat} {it : Item} {l : List Item} (n : Nat) (hv : vs.length = n) (hlen : σ'.length = env'.length) (hn : n ≤ env'.length)
    (hk : ∀ k ∈ io, k < n → σ'[k]? = some (vs[k]?)) (h : Rep K mg H (it :: (σ'.zip env' ++ l))) : Rep K mg H (it :: ((vs.map some).zip (backArgs io n env') ++ l)) := by
  -- prefix of the frame's items, each kept or given up
  have key : ∀ (vs : List V) (σ' : L2.St) (env' : Lo) (f : Nat → Bool) (M : List Item), vs.length ≤ env'.length → σ'.length = env'.length → (∀ k, f k = true → k < vs.length → σ'[k]? = some (vs[k]?)) → Rep K mg H (σ'.zip env' ++ M) →
      Rep K mg H ((vs.map some).zip ((List.range vs.length).map fun k => if f k = true then env'[k]?.getD .no else .no) ++ M) := by
    intro vs
    induction vs with
    | nil => intro σ' env' f M _ _ _ h; exact Rep.dropA _ h
    | cons v vs ih =>
      intro σ' env' f M h1 h2 h3 h4
      cases env' with
      | nil => simp at h1
      | cons e env' =>
        cases σ' with
        | nil => simp at h2
        | cons o σ' =>
          have h5 : Rep K mg H (σ'.zip env' ++ ((o, e) :: M)) := by
            rw [List.zip_cons_cons, List.cons_append] at h4
            exact h4.perm perm_mid
          have h6 := ih σ' env' (fun k => f (k + 1)) ((o, e) :: M) (by simpa using h1) (by simpa using h2) (fun k a b => by have := h3 (k + 1) a (by simpa using b); simpa using this) h5
          rw [List.length_cons, List.range_succ_eq_map, List.map_cons, List.map_cons, List.zip_cons_cons, List.cons_append, List.map_map]
          have e7 : (fun k => if f (k + 1) = true then env'[k]?.getD Sl.no else Sl.no) = ((fun k => if f k = true then (e :: env')[k]?.getD Sl.no else Sl.no) ∘ Nat.succ) := by
            funext k
            simp [Function.comp, Nat.succ_eq_add_one]
          rw [e7] at h6
          have h8 : Rep K mg H ((o, e) :: ((vs.map some).zip ((List.range vs.length).map ((fun k => if f k = true then (e :: env')[k]?.getD Sl.no else Sl.no) ∘ Nat.succ)) ++ M)) := h6.perm perm_mid.symm
          by_cases hf : f 0 = true
          · have eo := h3 0 hf (by simp)
            simp at eo
            subst eo
            rw [if_pos hf]
            exact h8
          · rw [if_neg hf]
            exact h8.tail.no _
  subst hv
  have h' : Rep K mg H (σ'.zip env' ++ (it :: l)) := h.perm perm_mid
  have := key vs σ' env' (fun k => decide (k ∈ io)) (it :: l) hn hlen (fun k a b => hk k (of_decide_eq_true a) b) h'
  have e : ((List.range vs.length).map fun k => if decide (k ∈ io) = true then env'[k]?.getD Sl.no else Sl.no) = backArgs io vs.length env' := by
    unfold backArgs
    congr 1
    funext k
    by_cases hk : k ∈ io
    · rw [if_pos hk, if_pos (decide_eq_true hk)]
    · rw [if_neg hk, if_neg (by simpa using hk)]
  rw [e] at this
  exact this.perm perm_mid.symm
theorem fn_ok {P : Program} {w : World} {K : PySem.W.Frag} {mg : Str → Option Value} {base : Heap} {x qual : Str} {st : Stmt} {f : Addr} {fd : FuncData} {N ps : List Str} {k : Nat} {io : List Nat} {b : EvS} (F : Fun K x qual st f fd) (S : FnScope N ps (defScope st)) (hio : ∀ k ∈ io, k < ps.length)
    (hb : ∀ (cdv : Value) (A : Around) (outer : List Env) (s : Shared) (H : Hp) (E : XK), Room k (A.deeper (envOfC qual (defScope st) s.heap.objs.size f cdv)) → SSs (cxOf CX0 P w K mg base N qual (defScope st) f cdv A outer s H E).nox io (defBody st) b) :
    FnOk P w K mg base CX0 (k + 1) f fd ps (spF K mg ps.length (runFn N.length ps.length io b)) := by
  refine F.ok S (fun vs H Q E h => h.1) fun cdv A outer s H vs Q E hr h => ?_
  obtain ⟨hl, args, l, r, args', ha, rp, e, q⟩ := h
  obtain ⟨t, p, sem⟩ := (hb cdv A outer s H E hr).ex
  refine ⟨t, p, ?_⟩
  unfold runFn at e
  obtain ⟨o, eo, e⟩ := Res.bind_ok e
  have hst : Hold K mg H (L2.start N vs) (args ++ List.replicate (N.length - ps.length) .no) l := by
    refine ⟨?_, ?_⟩
    · unfold L2.start
      rw [List.length_append, List.length_append, List.length_map, List.length_replicate, List.length_replicate, hl, ha]
    · unfold L2.start
      rw [hl]
      exact zip_start (by rw [hl, ha]) rp
  have kk : ∀ {σ' : L2.St}, KeepEq io (L2.start N vs) σ' → ∀ k ∈ io, k < ps.length → σ'[k]? = some (vs[k]?) := fun {σ'} kq k hk hlt => by
    rw [kq k hk]
    unfold L2.start
    rw [List.getElem?_append_left (by rw [List.length_map]; omega), List.getElem?_map]
    rw [List.getElem?_eq_getElem (by omega)]
    rfl
  refine sem (L2.start N vs) H _ l o hst eo _ ?_
  cases o with
  | nx env' =>
    dsimp only at e
    split at e
    · rename_i hn
      cases e
      intro σ' H' h' kq
      have hv := h'.shV (v := .non) (d := .none) fun _ => .non
      exact q .non H' (back_items ps.length hl h'.len hn (kk kq) hv.rep) rfl
    · cases e
  | rt r' env' =>
    dsimp only at e
    split at e
    · rename_i hn
      cases e
      intro v σ' H' h' hv kq
      exact q v H' (back_items ps.length hl h'.len hn (kk kq) h'.rep) hv
    · cases e
  | bk _ => cases e
  | ct _ => cases e
end FL

/-! FL8: zip of lists and tuples, enumerate, what a slot's own list becomes, unpacking, the script -/
namespace FL
open PySem PySem.Spec PyProof.Rows L2

/-! ### zip of lists and tuples in any mix -/
def sqS (K : PySem.W.Frag) (H : Hp) (tp : Bool) (a : Addr) (xs : List V) : Prop := match tp with
  | true => SqT K H a xs
  | false => SqL K H a xs
def itS (h : Heap) (it a : Addr) (i : Nat) (tp : Bool) : Prop := match tp with
  | true => h.IsTupleIter it a i
  | false => h.IsListIter it a i
def seS (h : Heap) (a : Addr) (items : Array Value) (tp : Bool) : Prop := match tp with
  | true => h.IsTuple a items
  | false => h.IsList a items
theorem seS_of {X : Cx} {pins : List (Addr × Obj)} {σ : L2.St} {H : Hp} {s : Shared} {a : Addr} {xs : List V} {tp : Bool} (I : Inv X pins σ H s) (h : sqS X.K H tp a xs) : ∃ its : List Value, Vals xs its ∧ seS s.heap a its.toArray tp ∧ a < s.heap.objs.size := by
  cases tp with
  | true =>
    obtain ⟨its, r, p, _⟩ := I.tuple h
    have p' : s.heap.IsTuple a its.toArray := p
    exact ⟨its, r, p', let ⟨_, e, _⟩ := p'; Heap.lt_size e⟩
  | false =>
    obtain ⟨its, r, p, _⟩ := I.list h
    exact ⟨its, r, p.isList, p.lt⟩
theorem sqS_inj {X : Cx} {pins : List (Addr × Obj)} {σ : L2.St} {H : Hp} {s : Shared} {a : Addr} {xs ys : List V} {tp : Bool} (I : Inv X pins σ H s) (h : sqS X.K H tp a xs) (h' : sqS X.K H tp a ys) : xs = ys := by
  cases tp with
  | true => exact I.tuple_inj h h'
  | false => exact I.list_inj h h'
theorem drS {prog : Program} {w : World} {A : Around} (hh : A.handled = none) (it l : Addr) (hne : l ≠ it) (items : Array Value) (tp : Bool) :
    Draws prog w A it [it, l] items.size (fun i v => items[i]? = some v) (fun i h => itS h it l i tp ∧ seS h l items tp) := by
  cases tp with
  | true => exact Draws.tuple hh it l hne items
  | false => exact Draws.list hh it l hne items
theorem itS.at' {h h' : Heap} {it a : Addr} {i : Nat} {tp : Bool} (x : itS h it a i tp) (k : ∀ o, h.get? it = some o → h'.get? it = some o) : itS h' it a i tp := by
  cases tp with
  | true => exact Heap.IsTupleIter.at x k
  | false => exact Heap.IsListIter.at x k
theorem itS.obj {h : Heap} {it a : Addr} {i : Nat} {tp : Bool} (x : itS h it a i tp) : ∃ o, h.get? it = some o ∧ ∀ v, o.data ≠ .cell v := by
  cases tp with
  | true => obtain ⟨o, e, _, d⟩ := x; exact ⟨o, e, fun v q => by rw [d] at q; cases q⟩
  | false => obtain ⟨o, e, _, d⟩ := x; exact ⟨o, e, fun v q => by rw [d] at q; cases q⟩
def ItzM (K : PySem.W.Frag) (ta tb : Bool) (a b : Addr) : It :=
  ⟨fun i H => ∃ (xs ys : List V) (x y : V), sqS K H ta a xs ∧ sqS K H tb b ys ∧ xs[i]? = some x ∧ ys[i]? = some y,
   fun i H v H' => ∃ T x y, v = .ref T ∧ H T = none ∧ H' = upd H T (.tup [x, y]) ∧ (∀ xs, sqS K H ta a xs → xs[i]? = some x) ∧ ∀ ys, sqS K H tb b ys → ys[i]? = some y,
   fun i H => ∃ xs ys : List V, sqS K H ta a xs ∧ sqS K H tb b ys ∧ (xs.length = i ∨ ys.length = i) ∧ i ≤ xs.length ∧ i ≤ ys.length⟩
theorem turn_zipM {P : Program} {w : World} {K : PySem.W.Frag} {elts : List Expr} {kk : Nat} {tpos : Pos} {ta tb : Bool} {a b z TI TO i1 i2 : Addr} (S : ZipSep2 z TI TO i1 i2 [i1, a] [i2, b]) :
    Turn P w K (.Tuple elts kk tpos) (ItzM K ta tb a b) [z, TI, TO, i1, i2] z (fun i h => IsZip h z TI TO .none ∧ IsTupOf2 h TI (.ref i1) (.ref i2) ∧ (∃ x y, IsTupOf2 h TO x y) ∧ itS h i1 a i ta ∧ itS h i2 b i tb) where
  mem := by simp
  obj := fun i h ⟨hz, hTI, ⟨x, y, hTO⟩, h1, h2⟩ c hc => by
    have e' : c = z ∨ c = TI ∨ c = TO ∨ c = i1 ∨ c = i2 := by simpa using hc
    rcases e' with rfl | rfl | rfl | rfl | rfl
    · exact ⟨_, hz, fun v q => nomatch q⟩
    · exact ⟨_, hTI, fun v q => nomatch q⟩
    · exact ⟨_, hTO, fun v q => nomatch q⟩
    · exact h1.obj
    · exact h2.obj
  keep := fun i h h' ⟨hz, hTI, ⟨x, y, hTO⟩, h1, h2⟩ k =>
    ⟨k z (by simp) _ hz, k TI (by simp) _ hTI, ⟨x, y, k TO (by simp) _ hTO⟩, h1.at' fun o q => k i1 (by simp) o q, h2.at' fun o q => k i2 (by simp) o q⟩
  item := by
    intro X hP hw hK hc i pins s σ H E I hf ⟨hz, hTI, ⟨x0, y0, hTO⟩, h1, h2⟩ ⟨xs, ys, x, y, hqx, hqy, hx, hy⟩
    subst hP hw hK
    obtain ⟨its, rv, p, la⟩ := seS_of I hqx
    obtain ⟨its2, rv2, p2, lb⟩ := seS_of I hqy
    obtain ⟨u, hu, ru⟩ := rv.get hx
    obtain ⟨u2, hu2, ru2⟩ := rv2.get hy
    have ha1 : a ≠ i1 := fun q => by
      subst q
      obtain ⟨o, e, d⟩ := h1.obj
      cases ta with
      | true => obtain ⟨o1, e1, c1, _⟩ := p; obtain ⟨o2, e2, c2, _⟩ := h1; rw [e1] at e2; cases e2; rw [c1] at c2; simp at c2
      | false => obtain ⟨o1, e1, c1, _⟩ := p; obtain ⟨o2, e2, c2, _⟩ := h1; rw [e1] at e2; cases e2; rw [c1] at c2; simp at c2
    have hb2 : b ≠ i2 := fun q => by
      subst q
      cases tb with
      | true => obtain ⟨o1, e1, c1, _⟩ := p2; obtain ⟨o2, e2, c2, _⟩ := h2; rw [e1] at e2; cases e2; rw [c1] at c2; simp at c2
      | false => obtain ⟨o1, e1, c1, _⟩ := p2; obtain ⟨o2, e2, c2, _⟩ := h2; rw [e1] at e2; cases e2; rw [c1] at c2; simp at c2
    have D1 := drS (prog := X.prog) (w := X.w) (A := X.A.in1) (I.ok.hd hc) i1 a ha1 its.toArray ta
    have D2 := drS (prog := X.prog) (w := X.w) (A := X.A.in1) (I.ok.hd hc) i2 b hb2 its2.toArray tb
    have hzl : z < s.heap.objs.size := Heap.lt_size hz
    have hi1 : i < its.toArray.size := by have := (List.getElem?_eq_some_iff.mp hu).1; simpa using this
    have hi2 : i < its2.toArray.size := by have := (List.getElem?_eq_some_iff.mp hu2).1; simpa using this
    refine wpAny_pyNext_zipD2_item S D1 D2 hz hTI hTO ⟨h1, p⟩ ⟨h2, p2⟩ hi1 hi2 fun x1 x2 h' tk q1 q2 z' TO' st1 st2 hT hsz hk => ?_
    have e1 : x1 = u := by
      have : its.toArray[i]? = some u := by simpa using hu
      rw [this] at q1; cases q1; rfl
    have e2 : x2 = u2 := by
      have : its2.toArray[i]? = some u2 := by simpa using hu2
      rw [this] at q2; cases q2; rfl
    subst e1 e2
    refine ⟨_, rfl, wpAny_letOwnedTupleGo_zip (s := { s with heap := h', toks := tk }) z' fun h'' z'' sb => ?_⟩
    have hT2 : h''.get? s.heap.objs.size = some { cls := .type "tuple", data := .seq #[x1, x2] } := (sb.2 _ (Nat.ne_of_gt hzl)).trans hT
    have new : ObjOk X.prog X.w (upd H s.heap.objs.size (.tup [x, y])) h'' s.heap.objs.size (.tup [x, y]) :=
      ⟨by show 2 ≤ sizeLine; decide, [x1, x2], .cons ru (.cons ru2 .nil), ⟨_, hT2, rfl, _, rfl⟩⟩
    have I1 : Inv X pins σ (upd H s.heap.objs.size (.tup [x, y])) { s with heap := h'', toks := tk } :=
      I.turnedNew (t' := tk) (ch := [z, TI, TO, i1, i2]) (fun c o hb q => (sb.2 c (fun q' => hb (by simp [q']))).trans (hk c o (fun q' => hb (by simp [q'])) (fun q' => hb (by simp [q'])) (fun q' => hb (by simp [q'])) (fun q' => hb (by simp [q'])) q)) hf (Nat.le_refl _) new
    refine ⟨.ref s.heap.objs.size, _, I1, rfl, ⟨_, x, y, rfl, I.hok.fresh (Nat.le_refl _), rfl, fun l hl => by rw [sqS_inj I hl hqx]; exact hx, fun l hl => by rw [sqS_inj I hl hqy]; exact hy⟩, ⟨z'', ?_, ⟨x1, x2, ?_⟩, ?_, ?_⟩, fun c hcm => ?_⟩
    · exact (sb.2 _ S.TIz).trans (hk _ _ S.TIz S.TITO S.TIi1 S.TIi2 hTI)
    · exact (sb.2 _ S.TOz).trans TO'
    · exact st1.1.at' fun o q => (sb.2 _ S.zi1.symm).trans q
    · exact st2.1.at' fun o q => (sb.2 _ S.zi2.symm).trans q
    · have hlt : c < s.heap.objs.size := by
        have e' : c = z ∨ c = TI ∨ c = TO ∨ c = i1 ∨ c = i2 := by simpa using hcm
        rcases e' with rfl | rfl | rfl | rfl | rfl
        · exact hzl
        · exact Heap.lt_size hTI
        · exact Heap.lt_size hTO
        · obtain ⟨_, q, _⟩ := h1.obj; exact Heap.lt_size q
        · obtain ⟨_, q, _⟩ := h2.obj; exact Heap.lt_size q
      rw [upd_ne (Nat.ne_of_lt hlt)]
      exact (hf c hcm).1
  done := by
    intro X hP hw hK hc i pins s σ H E I hf ⟨hz, hTI, ⟨x0, y0, hTO⟩, h1, h2⟩ ⟨xs, ys, hqx, hqy, hend, l1, l2⟩
    subst hP hw hK
    obtain ⟨its, rv, p, la⟩ := seS_of I hqx
    obtain ⟨its2, rv2, p2, lb⟩ := seS_of I hqy
    have ha1 : a ≠ i1 := fun q => by
      subst q
      cases ta with
      | true => obtain ⟨o1, e1, c1, _⟩ := p; obtain ⟨o2, e2, c2, _⟩ := h1; rw [e1] at e2; cases e2; rw [c1] at c2; simp at c2
      | false => obtain ⟨o1, e1, c1, _⟩ := p; obtain ⟨o2, e2, c2, _⟩ := h1; rw [e1] at e2; cases e2; rw [c1] at c2; simp at c2
    have hb2 : b ≠ i2 := fun q => by
      subst q
      cases tb with
      | true => obtain ⟨o1, e1, c1, _⟩ := p2; obtain ⟨o2, e2, c2, _⟩ := h2; rw [e1] at e2; cases e2; rw [c1] at c2; simp at c2
      | false => obtain ⟨o1, e1, c1, _⟩ := p2; obtain ⟨o2, e2, c2, _⟩ := h2; rw [e1] at e2; cases e2; rw [c1] at c2; simp at c2
    have D1 := drS (prog := X.prog) (w := X.w) (A := X.A.in1) (I.ok.hd hc) i1 a ha1 its.toArray ta
    have D2 := drS (prog := X.prog) (w := X.w) (A := X.A.in1) (I.ok.hd hc) i2 b hb2 its2.toArray tb
    have e1 : its.toArray.size = xs.length := by rw [List.size_toArray]; exact rv.length.symm
    have e2 : its2.toArray.size = ys.length := by rw [List.size_toArray]; exact rv2.length.symm
    refine wpAny_pyNext_zipD2_end S D1 D2 hz hTI hTO ⟨h1, p⟩ ⟨h2, p2⟩ (by omega) (by omega) (by omega) fun h' tk hk => ⟨rfl, I.turnedL (t' := tk) (ch := [z, TI, TO, i1, i2]) (fun c o hb q =>
      hk c o (fun q' => hb (by simp [q'])) (fun q' => hb (by simp [q'])) (fun q' => hb (by simp [q'])) (fun q' => hb (by simp [q'])) q) hf⟩
  self := fun A i s Q E st h => wpAny_pyIter_zip st.1 h
def iZipM (K : PySem.W.Frag) (t : TA) : TI := fun σ H R => t σ H fun vs H1 => ∃ ta tb a b xs ys, vs = [.ref a, .ref b] ∧ sqS K H1 ta a xs ∧ sqS K H1 tb b ys ∧ R (ItzM K ta tb a b) H1
def begO (a : Addr) (tp : Bool) : Obj := match tp with
  | true => { cls := .type "tuple_iterator", data := .fields #[.ref a, .int 0 0] }
  | false => { cls := .type "list_iterator", data := .fields #[.ref a, .int 0 0] }
theorem begS (a : Addr) (items : Array Value) (tp : Bool) : Begins (.ref a) (begO a tp) fun h => seS h a items tp := by
  cases tp with
  | true => exact begins_tuple a items
  | false => exact begins_list a items
theorem begO_it {h : Heap} {it a : Addr} {tp : Bool} (e : h.get? it = some (begO a tp)) : itS h it a 0 tp := by
  cases tp with
  | true => exact ⟨_, e, rfl, rfl⟩
  | false => exact ⟨_, e, rfl, rfl⟩
theorem pi_zipM {X : Cx} {e e2 : Expr} {t : TA} {p pos tpos : Pos} {elts : List Expr} {kk : Nat} (hg : Gl X "zip") (hm : X.mg "zip" = none) (ha : PA X [e, e2] t)
    (hs : starEach [e, e2] X.env = (false, eval e X.env) :: starEach [e2] X.env := by rfl) (hpl : (backTo pos (starEach [e2] X.env)).any (·.1) = false := by rfl) :
    PI X (.Tuple elts kk tpos) (.Call (.Name "zip" p) [e, e2] [] pos) (iZipM X.K t) := by
  refine ⟨fun pins s σ H R I h => Call_ (ld_blt I hg hm PyProof.Rows.boot_zip (PyProof.Rows.callWith_type1 (thn (ha.run pos pins s σ H _ I h) fun us s1 ⟨vs, H1, I1, r1, q1⟩ => ?_) hs hpl))⟩
  obtain ⟨ta, tb, a, b, xs, ys, ex, hqx, hqy, q⟩ := q1
  subst ex
  obtain ⟨u1, u2, rfl, ra, rb⟩ := Vals.two r1
  cases ra
  cases rb
  obtain ⟨its, rv, p1, la⟩ := seS_of I1 hqx
  obtain ⟨its2, rv2, p2, lb⟩ := seS_of I1 hqy
  refine zip_begins2 (begS a its.toArray ta) (begS b its2.toArray tb) p1 p2 fun h' hz hTI hTO h1 h2 hsz hk => wpAny_pyIter_zip hz ?_
  have I2 : Inv X pins σ H1 { s1 with heap := h' } := I1.kept (t' := s1.toks) hk
  refine ⟨s1.heap.objs.size + 4, [s1.heap.objs.size + 4, s1.heap.objs.size + 2, s1.heap.objs.size + 3, s1.heap.objs.size, s1.heap.objs.size + 1], _, _, H1, rfl, I2,
    turn_zipM (zip_sep2 (N := s1.heap.objs.size) (fp1 := [a]) (fp2 := [b]) (fun c hc => by rw [List.mem_singleton.mp hc]; exact la) fun c hc => by rw [List.mem_singleton.mp hc]; exact lb), ⟨hz, hTI, ⟨_, _, hTO⟩, begO_it h1, begO_it h2⟩, fun c hcm => ?_, q⟩
  have e' : c = s1.heap.objs.size + 4 ∨ c = s1.heap.objs.size + 2 ∨ c = s1.heap.objs.size + 3 ∨ c = s1.heap.objs.size ∨ c = s1.heap.objs.size + 1 := by simpa using hcm
  have hle : s1.heap.objs.size ≤ c := by
    rcases e' with z | z | z | z | z <;> rw [z] <;> first | exact Nat.le_add_right _ _ | exact Nat.le_refl _
  exact I1.fpOk hle (I1.hok.fresh hle)
def isTup : D → Bool
  | .tuple _ => true
  | _ => false
def seqOf : D → Option (List D)
  | .list ds => some ds
  | .tuple ds => some ds
  | _ => none
def zipD (a b : List D) : List D := List.zipWith (fun x y => PyData.tuple [x, y]) a b
def fZip (fs : EvA) : EvI := fun env => do
  let (rs, e1) ← fs env
  let (ds, e2) ← Res.ofO (freezeAll e1 rs)
  match ds with
  | [a, b] => do
    let xs ← Res.ofO (seqOf a)
    let ys ← Res.ofO (seqOf b)
    .ok ([.sh a, .sh b], zipD xs ys, e2)
  | _ => .bad
theorem seq_at {K : PySem.W.Frag} {G H : Hp} {v : V} {d : D} {xs : List D} (sm : Same G H) (h : Dt K G v d) (e : seqOf d = some xs) : ∃ (tp : Bool) (a : Addr) (vs : List V), v = .ref a ∧ sqS K H tp a vs ∧ DtAll K G vs xs := by
  cases h with
  | lst hs ha => cases e; exact ⟨false, _, _, rfl, .of (sm _ _ hs), ha⟩
  | tup hs ha => cases e; exact ⟨true, _, _, rfl, .of (sm _ _ hs), ha⟩
  | non => cases e
  | bl _ => cases e
  | int _ => cases e
  | str _ => cases e
theorem seq_again {K : PySem.W.Frag} {G H : Hp} {a : Addr} {d : D} {xs : List D} {tp : Bool} (sm : Same G H) (h : Dt K G (.ref a) d) (e : seqOf d = some xs) (ht : tp = isTup d) : ∃ vs : List V, sqS K H tp a vs ∧ DtAll K G vs xs := by
  subst ht
  cases h with
  | lst hs ha => cases e; exact ⟨_, .of (sm _ _ hs), ha⟩
  | tup hs ha => cases e; exact ⟨_, .of (sm _ _ hs), ha⟩
theorem setAll_len : ∀ {is : List Nat} {ds : List D} {env env' : Lo}, setAll env is ds = some env' → ds.length = is.length := by
  intro is
  induction is with
  | nil => intro ds env env' e; cases ds <;> first | rfl | cases e
  | cons i is ih =>
    intro ds env env' e
    cases ds with
    | nil => cases e
    | cons d ds =>
      unfold setAll at e
      split at e
      · simp [ih e]
      · cases e
theorem itok_zip {K : PySem.W.Frag} {mg : Str → Option Value} {a b : Addr} {da db : D} {xs ys : List D} (ea : seqOf da = some xs) (eb : seqOf db = some ys) :
    ItOk K mg (ItzM K (isTup da) (isTup db) a b) [(some (.ref a), .sh da), (some (.ref b), .sh db)] (zipD xs ys) := by
  intro i G H os L rp hm
  obtain ⟨va, e1, d1⟩ := rp.shOf (hm (some (.ref a), .sh da) (by simp))
  obtain ⟨vb, e2, d2⟩ := rp.shOf (hm (some (.ref b), .sh db) (by simp))
  cases e1
  cases e2
  obtain ⟨vs, q1, h1⟩ := seq_again rp.same d1 ea rfl
  obtain ⟨ws, q2, h2⟩ := seq_again rp.same d2 eb rfl
  have hlen : (zipD xs ys).length = min xs.length ys.length := by simp [zipD]
  constructor
  · intro d hd
    have hi := (List.getElem?_eq_some_iff.mp hd).1
    rw [hlen] at hi
    have ex : xs[i]? = some xs[i] := List.getElem?_eq_getElem (by omega)
    have ey : ys[i]? = some ys[i] := List.getElem?_eq_getElem (by omega)
    have ed : d = .tuple [xs[i], ys[i]] := by
      unfold zipD at hd
      rw [List.getElem?_zipWith, ex, ey] at hd
      cases hd; rfl
    obtain ⟨x, x1, x2⟩ := h1.get ex
    obtain ⟨y, y1, y2⟩ := h2.get ey
    refine ⟨⟨vs, ws, x, y, q1, q2, x1, y1⟩, fun v H' hy => ?_⟩
    obtain ⟨T, x', y', rfl, hT, rfl, f1, f2⟩ := hy
    have := f1 vs q1; rw [x1] at this; cases this
    have := f2 ws q2; rw [y1] at this; cases this
    refine ⟨_, .step .refl hT, ?_⟩
    rw [ed]
    have sG : Same G (upd G T (.tup [x, y])) := sameG (rp.same.free hT)
    exact .tup (upd_same) (.cons (Dt.mono sG _ _ x2) (.cons (Dt.mono sG _ _ y2) .nil))
  · intro hi
    rw [hlen] at hi
    have l1 := h1.length
    have l2 := h2.length
    exact ⟨vs, ws, q1, q2, by omega, by omega, by omega⟩
section
variable {X : Cx}
theorem si_zip {e e2 : Expr} {fs : EvA} {p pos tpos : Pos} {elts : List Expr} {kk : Nat} (hg : Gl X "zip") (hm : X.mg "zip" = none) (ha : SA X [e, e2] fs)
    (hs : starEach [e, e2] X.env = (false, eval e X.env) :: starEach [e2] X.env := by rfl) (hpl : (backTo pos (starEach [e2] X.env)).any (·.1) = false := by rfl) :
    SI X (.Tuple elts kk tpos) (.Call (.Name "zip" p) [e, e2] [] pos) (fZip fs) := by
  obtain ⟨t, p', s⟩ := ha.ex
  refine ⟨_, pi_zipM hg hm p' hs hpl, ?_⟩
  intro σ H env l ks ds env' h e R q
  unfold fZip at e
  obtain ⟨⟨rs, e1⟩, ea, e⟩ := Res.bind_ok e
  obtain ⟨⟨es, e2⟩, eb, e⟩ := Res.bind_ok e
  replace eb := Res.ofO_ok eb
  refine s σ H env l rs e1 h ea _ fun vs H1 h1 => ?_
  have h2 := h1.freeze eb
  dsimp only at e
  split at e
  · rename_i da db
    obtain ⟨xs, ex, e⟩ := Res.bind_ok e
    obtain ⟨ys, ey, e⟩ := Res.bind_ok e
    replace ex := Res.ofO_ok ex
    replace ey := Res.ofO_ok ey
    cases e
    obtain ⟨G, os, rp⟩ := h2.rep
    have hl := h2.alen
    match vs, hl with
    | [va, vb], _ =>
      obtain ⟨v1, q1, d1⟩ := rp.shOf (ov := some va) (d := da) (List.mem_append_left _ (by simp))
      cases q1
      obtain ⟨v2, q2, d2⟩ := rp.shOf (ov := some vb) (d := db) (List.mem_append_left _ (by simp))
      cases q2
      have a1 : ∃ a, va = .ref a := by cases d1 <;> first | exact ⟨_, rfl⟩ | cases ex
      have a2 : ∃ a, vb = .ref a := by cases d2 <;> first | exact ⟨_, rfl⟩ | cases ey
      obtain ⟨a, rfl⟩ := a1
      obtain ⟨b, rfl⟩ := a2
      obtain ⟨vs, q1, _⟩ := seq_again rp.same d1 ex rfl
      obtain ⟨ws, q2, _⟩ := seq_again rp.same d2 ey rfl
      exact ⟨_, _, a, b, vs, ws, rfl, q1, q2, q _ [.ref a, .ref b] H1 h2 (itok_zip ex ey)⟩
  · cases e
end

/-! ### a slot's own list, changed by a method -/
def SemM (r : V → List V → Hp → VK → Prop) (K : PySem.W.Frag) (op : List D → List D → Option (List D × D)) : Prop :=
  ∀ (G H : Hp) (p : Addr) (ws : List V) (ds : List D) (vs : List V) (es : List D) (ds' : List D) (y : D) (Q : VK), Same G H → G p = none → H p = some (.lst ws) → DtAll K G ws ds → DtAll K G vs es → op ds es = some (ds', y) →
    (∀ ws' v, DtAll K G ws' ds' → Dt K G v y → Q v (upd H p (.lst ws'))) → r (.ref p) vs H Q
def fMut (i : Nat) (op : List D → List D → Option (List D × D)) (fs : EvA) : EvF := fun env => do
  match env[i]? with
  | some (.ol _) => do
    let (rs, e1) ← fs env
    let (es, e2) ← Res.ofO (freezeAll e1 rs)
    match e2[i]? with
    | some (.ol ds) => do
      let (ds', y) ← Res.ofO (op ds es)
      .ok (.sh y, e2.set i (.ol ds'))
    | _ => .bad
  | _ => .bad
theorem sem_mut {K : PySem.W.Frag} {mg : Str → Option Value} {i : Nat} {op : List D → List D → Option (List D × D)} {r : V → List V → Hp → VK → Prop} {t : TA} {fs : EvA} (ho : SemM r K op) (hs : SemA K mg t fs) : SemE K mg (tBM K "list" r (tVar i) t) (fMut i op fs) := by
  intro σ H env l s env' h e Q q
  unfold fMut at e
  split at e
  · rename_i ds0 e0
    obtain ⟨⟨rs, e1⟩, ea, e⟩ := Res.bind_ok e
    obtain ⟨⟨es, e2⟩, eb, e⟩ := Res.bind_ok e
    replace eb := Res.ofO_ok eb
    dsimp only at e
    split at e
    · rename_i ds e3
      obtain ⟨⟨ds', y⟩, ec, e⟩ := Res.bind_ok e
      replace ec := Res.ofO_ok ec
      cases e
      obtain ⟨ov, eσ, rp0⟩ := h.take e0
      obtain ⟨G0, os0, rp0⟩ := rp0
      obtain ⟨o0, ri0⟩ := rp0.rl.mem List.mem_cons_self
      obtain ⟨p, ws0, rfl, _, hp0, ha0⟩ := ri0.ol_inv
      refine ⟨.ref p, eσ, .inl ⟨rfl, ws0, .of hp0⟩, ?_⟩
      refine hs σ H env l rs e1 h ea _ fun vs H1 h1 => ?_
      have h2 := h1.freeze eb
      have hh : Hold K mg H1 σ e2 ((vs.map some).zip (es.map Sl.sh) ++ l) := ⟨h2.len, by
        refine h2.rep.perm ?_
        rw [← List.append_assoc, ← List.append_assoc]
        exact List.perm_append_comm.append_right l⟩
      obtain ⟨ov', eσ', rp⟩ := hh.take e3
      rw [eσ] at eσ'; cases eσ'
      obtain ⟨G, os, rp⟩ := rp
      obtain ⟨o1, ri⟩ := rp.rl.mem List.mem_cons_self
      obtain ⟨p', ws, ep, _, hp, ha⟩ := ri.ol_inv
      cases ep
      have hlen : vs.length = es.length := by simpa using h2.alen
      have dv : DtAll K G vs es := rp.all hlen fun it hi => List.mem_cons_of_mem _ (List.mem_append_right _ (List.mem_append_left _ hi))
      have gp : G p = none := by
        cases rp.rl with
        | cons r1 t1 =>
          obtain ⟨p2, _, ep, eo, _, _⟩ := r1.ol_inv
          cases ep
          subst eo
          exact rp.off p (by simp)
      refine ho G H1 p ws ds vs es ds' y Q rp.same gp hp ha dv ec fun ws' v hw hy => q v _ ?_
      have rp2 := rp.mut (s' := .ol ds') (o := .lst ws') ol_own fun H' e => .bx (.ol e hw)
      have rp3 : Rep K mg (upd H1 p (.lst ws')) ((some (.ref p), Sl.ol ds') :: (σ.zip (e2.set i .no) ++ ((some v, Sl.sh y) :: ((vs.map some).zip (es.map Sl.sh) ++ l)))) :=
        Rep.perm ⟨_, _, rp2.sh hy⟩ ((List.Perm.swap _ _ _).trans (List.Perm.cons _ perm_mid))
      have rp4 := Rep.put rp3 (by rw [List.length_set]; exact h2.len) eσ
      rw [List.set_set] at rp4
      refine ⟨by rw [List.length_set]; exact h2.len, ?_, fun _ z => by cases z⟩
      have : Rep K mg (upd H1 p (.lst ws')) ((some v, Sl.sh y) :: (σ.zip (e2.set i (.ol ds')) ++ ((vs.map some).zip (es.map Sl.sh) ++ l))) := rp4.perm perm_mid.symm
      rw [← List.cons_append] at this
      have := this.dropM
      rw [List.cons_append] at this
      exact this
    · cases e
  · cases e
def appendM (ds : List D) : List D → Option (List D × D)
  | [d] => if ds.length < 16777216 then some (ds ++ [d], .none) else none
  | _ => none
theorem sm_append {K : PySem.W.Frag} : SemM rAppend K appendM := by
  intro G H p ws ds vs es ds' y Q sm gp hp ha hv e q
  unfold appendM at e
  split at e
  · split at e
    · rename_i d hz
      cases e
      cases hv with
      | cons a b =>
        cases b
        exact ⟨p, ws, _, rfl, rfl, hp, sizeL' (by rw [ha.length]; exact hz), q _ _ (ha.append (.one a)) .non⟩
    · cases e
  · cases e
def extendM (ds : List D) : List D → Option (List D × D)
  | [.list es] => if ds.length + es.length ≤ 16777216 then some (ds ++ es, .none) else none
  | _ => none
theorem sm_extend {K : PySem.W.Frag} : SemM rExtend K extendM := by
  intro G H p ws ds vs es ds' y Q sm gp hp ha hv e q
  unfold extendM at e
  split at e
  · split at e
    · rename_i d hz
      cases e
      cases hv with
      | cons a b =>
        cases b
        cases a with
        | lst hs hb =>
          exact ⟨p, _, ws, _, rfl, rfl, hp, sm _ _ hs, sizeL (by rw [ha.length, hb.length]; exact hz), q _ _ (ha.append hb) .non⟩
    · cases e
  · cases e
def popM (ds : List D) : List D → Option (List D × D)
  | [] => (ds[ds.length - 1]?).map fun d => (ds.dropLast, d)
  | _ => none
theorem DtAll.dropLast {K : PySem.W.Frag} {G : Hp} {vs : List V} {ds : List D} (h : DtAll K G vs ds) : DtAll K G vs.dropLast ds.dropLast := by
  rw [List.dropLast_eq_take, List.dropLast_eq_take, h.length]
  exact h.take _
theorem sm_pop {K : PySem.W.Frag} : SemM rPop K popM := by
  intro G H p ws ds vs es ds' y Q sm gp hp ha hv e q
  unfold popM at e
  split at e
  · simp only [Option.map_eq_some_iff] at e
    obtain ⟨d, e1, e2⟩ := e
    cases e2
    cases hv
    obtain ⟨v, f1, f2⟩ := ha.get e1
    exact ⟨p, ws, v, rfl, rfl, hp, by rw [ha.length]; exact f1, q _ _ ha.dropLast f2⟩
  · cases e
def reverseM (ds : List D) : List D → Option (List D × D)
  | [] => some (ds.reverse, .none)
  | _ => none
theorem sm_reverse {K : PySem.W.Frag} : SemM rReverse K reverseM := by
  intro G H p ws ds vs es ds' y Q sm gp hp ha hv e q
  unfold reverseM at e
  split at e
  · cases e
    cases hv
    exact ⟨p, ws, rfl, rfl, hp, q _ _ ha.reverse .non⟩
  · cases e
def clearM (_ : List D) : List D → Option (List D × D)
  | [] => some ([], .none)
  | _ => none
theorem sm_clear {K : PySem.W.Frag} : SemM rClear K clearM := by
  intro G H p ws ds vs es ds' y Q sm gp hp ha hv e q
  unfold clearM at e
  split at e
  · cases e
    cases hv
    exact ⟨p, ws, rfl, rfl, hp, q _ _ .nil .non⟩
  · cases e
section
variable {X : Cx} {i : Nat} {x : Str} {name : Str} {e : Expr} {es : List Expr} {fs : EvA} {npos apos cpos : Pos} {id : String} {r : V → List V → Hp → VK → Prop} {op : List D → List D → Option (List D × D)}
theorem se_mut (slot : Slot "list" name id) (hty : typeOf (.builtin id) = pure (.type "method_descriptor")) (hm : MtR X id r) (so : SemM r X.K op) (hN : X.N[i]? = some x) (hv : Vis X.env.scope x) (ha : SA X (e :: es) fs)
    (hd : (x == ("__debug__" : Str)) = false := by decide) (hcd : (x == ("__classdict__" : Str)) = false := by decide)
    (hbase : attributeBase (.Name x npos) name X.env (eval (.Name x npos) X.env) = eval (.Name x npos) X.env := by rfl)
    (hfew : ((backTo cpos (starEach (e :: es) X.env)).all (fun x => !x.1) && (backToKw cpos (keywordEach [] X.env)).all (fun x => x.1.isSome)
      && decide ((e :: es).length + ([] : List Keyword).length + (if ([] : List Keyword).isEmpty then 0 else 1) < 30)) = true := by rfl)
    (hline : (apos.endLine == cpos.line) = true := by rfl) (hs : starEach (e :: es) X.env = (false, eval e X.env) :: starEach es X.env := by rfl) (hplain : (backTo cpos (starEach es X.env)).any (·.1) = false := by rfl) :
    SE X (.Call (.Attribute (.Name x npos) name apos) (e :: es) [] cpos) (fMut i op fs) := by
  obtain ⟨t, p, s⟩ := ha.ex
  exact ⟨_, pe_bm PySem.F.plainAttrs_list slot hty hm (pe_var hN hv hd hcd) p hbase hfew hline hs hplain, sem_mut so s⟩
theorem se_mut0 (slot : Slot "list" name id) (hty : typeOf (.builtin id) = pure (.type "method_descriptor")) (hm : MtR X id r) (so : SemM r X.K op) (hN : X.N[i]? = some x) (hv : Vis X.env.scope x)
    (hd : (x == ("__debug__" : Str)) = false := by decide) (hcd : (x == ("__classdict__" : Str)) = false := by decide)
    (hbase : attributeBase (.Name x npos) name X.env (eval (.Name x npos) X.env) = eval (.Name x npos) X.env := by rfl) (hline : (apos.endLine == cpos.line) = true := by rfl) :
    SE X (.Call (.Attribute (.Name x npos) name apos) [] [] cpos) (fMut i op fNil) := by
  refine ⟨_, pe_bm0 PySem.F.plainAttrs_list slot hty hm (pe_var hN hv hd hcd) hbase hline, ?_⟩
  exact fun σ H env l s env' h e Q q => sem_mut (t := tNil) so sem_nil σ H env l s env' h e Q q
end

/-! ### unpacking -/
def fUnp (is : List Nat) (fa : EvF) : EvS := fun env => do
  let (r, e1) ← fa env
  let (d, e2) ← Res.ofO (freezeR e1 r)
  let e3 ← Res.ofO (bindT (.tp is) d e2)
  .ok (.nx e3)
def fUnl (is : List Nat) (fa : EvF) : EvS := fun env => do
  let (r, e1) ← fa env
  let (d, e2) ← Res.ofO (freezeR e1 r)
  match d with
  | .list ds => do
    let e3 ← Res.ofO (setAll e2 is ds)
    .ok (.nx e3)
  | _ => .bad
section
variable {X : Cx} {ks is : List Nat} {tg e : Expr} {fa : EvF} {pos : Pos} {g : TG}
theorem ss_unp (he : SE X e fa) (hg : PG X tg g) (sg : SemG X.K X.mg g (.tp is)) (hk : ∀ k ∈ ks, k ∉ is := by decide) (hs : swapsWithSole [tg] e pos.line X.env = pure false := by rfl) (hw : swappedStores [tg] e X.env = pure none := by rfl)
    (h1 : (assignEach [tg] X.env).map (·.2) = [assign tg X.env] := by rfl) : SS X ks (.Assign [tg] e pos) (fUnp is fa) := by
  obtain ⟨t, p, s⟩ := he.ex
  refine ⟨_, ps_asg p hg hs hw h1, ?_⟩
  intro σ H env l o h e D post
  obtain ⟨⟨r, e1⟩, ea, e⟩ := Res.bind_ok e
  obtain ⟨⟨d, e2⟩, eb, e⟩ := Res.bind_ok e
  obtain ⟨e3, ec, e⟩ := Res.bind_ok e
  replace eb := Res.ofO_ok eb
  replace ec := Res.ofO_ok ec
  cases e
  refine s σ H env l r e1 h ea _ fun v H1 h1 => ?_
  exact sg σ H1 e2 e3 l v d (h1.freeze eb).hold ec _ fun σ' h' off => post σ' H1 h' (keep_off hk off)
theorem ss_unl (hc : X.calm = true) {es : List Expr} {kk : Nat} {tpos : Pos} (he : SE X e fa) (hg : PGs X es (gNames is)) (hn : (assignEach es X.env).length = is.length := by rfl) (hst : (assignEach es X.env).findIdx? (·.1) = none := by rfl)
    (hk : ∀ k ∈ ks, k ∉ is := by decide) (hs : swapsWithSole [(.Tuple es kk tpos)] e pos.line X.env = pure false := by rfl) (hw : swappedStores [(.Tuple es kk tpos)] e X.env = pure none := by rfl)
    (h1 : (assignEach [(.Tuple es kk tpos)] X.env).map (·.2) = [assign (.Tuple es kk tpos) X.env] := by rfl) : SS X ks (.Assign [.Tuple es kk tpos] e pos) (fUnl is fa) := by
  obtain ⟨t, p, s⟩ := he.ex
  refine ⟨_, ps_asg p (pg_unl hc hg hn hst) hs hw h1, ?_⟩
  intro σ H env l o h e D post
  obtain ⟨⟨r, e1⟩, ea, e⟩ := Res.bind_ok e
  obtain ⟨⟨d, e2⟩, eb, e⟩ := Res.bind_ok e
  replace eb := Res.ofO_ok eb
  dsimp only at e
  split at e
  · rename_i ds
    obtain ⟨e3, ec, e⟩ := Res.bind_ok e
    replace ec := Res.ofO_ok ec
    cases e
    refine s σ H env l r e1 h ea _ fun v H1 h1 => ?_
    have h2 := h1.freeze eb
    obtain ⟨G, os, rp⟩ := h2.rep
    obtain ⟨v', ev, dd⟩ := rp.shOf List.mem_cons_self
    cases ev
    cases dd with
    | @lst a xs _ hs ha =>
      refine ⟨a, xs, rfl, .of (rp.same _ _ hs), by rw [ha.length, setAll_len ec], ?_⟩
      refine setAll_ok (by rw [ha.length]) ⟨h2.len, ?_⟩ ec fun σ' h' off => post σ' H1 h' (keep_off hk off)
      have := dtAll_items rp ha
      have q := Rep.perm ⟨_, _, this⟩ (l' := (some (V.ref a), Sl.sh (.list ds)) :: ((xs.map some).zip (ds.map Sl.sh) ++ (σ.zip e2 ++ l))) perm_mid.symm
      refine q.tail.perm ?_
      rw [← List.append_assoc, ← List.append_assoc]
      exact List.perm_append_comm.append_right l
  · cases e
end

/-! ### the script, asked by its place -/
def fScLen (i : Nat) : EvF := fun env => match env[i]? with
  | some (.sc ns) => .ok (.sh (.int ns.length), env)
  | _ => .bad
def fScIx (i : Nat) (fb : EvF) : EvF := fun env => match env[i]? with
  | some (.sc ns) => do
    let (r, e1) ← fb env
    match r with
    | .sh (.int k) => do
      let n ← Res.ofO (atI ns k)
      .ok (.sh (.int n), e1)
    | _ => .bad
  | _ => .bad
theorem Hold.sc {K : PySem.W.Frag} {mg : Str → Option Value} {H : Hp} {σ : L2.St} {env : Lo} {l : List Item} {i : Nat} {ns : List Int} (h : Hold K mg H σ env l) (e : env[i]? = some (.sc ns)) : ∃ a, σ[i]? = some (some (.ref a)) ∧ SqL K H a (ns.map V.int) ∧ Hold K mg H σ env ((some (.ref a), .sc ns) :: l) := by
  obtain ⟨ov, e1⟩ := slot_at h.len e
  obtain ⟨G, os, rp⟩ := h.rep
  obtain ⟨o, ri⟩ := rp.rl.mem (List.mem_append_left _ (mem_zip e1 e))
  cases ri with
  | bx b => cases b with
    | sc hs => exact ⟨_, e1, rp.same.seq hs, h.len, Rep.perm ⟨_, _, rp.push (.bx (.sc hs))⟩ perm_mid⟩
section
variable {X : Cx} {i : Nat} {x nm : Str} {b : Expr} {fb : EvF} {npos pos p : Pos}
theorem se_scLen (hg : Gl X "len") (hm : X.mg "len" = none) (hN : X.N[i]? = some x) (hv : Vis X.env.scope x) (hd : (x == ("__debug__" : Str)) = false := by decide) (hcd : (x == ("__classdict__" : Str)) = false := by decide)
    (he : starEach [.Name x npos] X.env = (false, eval (.Name x npos) X.env) :: starEach [] X.env := by rfl) (hpl : (backTo pos (starEach [] X.env)).any (·.1) = false := by rfl) : SE X (.Call (.Name "len" p) [.Name x npos] [] pos) (fScLen i) := by
  refine ⟨_, pe_callB call_len_seq hg hm PySem.boot_len (pa_cons (pe_var hN hv hd hcd) pa_nil) (by decide) (by decide) he hpl, ?_⟩
  intro σ H env l r env' h e Q q
  unfold fScLen at e
  split at e
  · rename_i ns e0
    cases e
    obtain ⟨a, e1, hs, _⟩ := h.sc e0
    refine ⟨.ref a, e1, a, ns.map V.int, rfl, .inl hs, ?_⟩
    rw [List.length_map]
    exact q _ H (h.shV fun _ => .int _)
  · cases e
theorem se_scIx (hN : X.N[i]? = some x) (hv : Vis X.env.scope x) (hb : SE X b fb) (hd : (x == ("__debug__" : Str)) = false := by decide) (hcd : (x == ("__classdict__" : Str)) = false := by decide)
    (hs : PlainIx b := by exact fun _ _ => rfl) : SE X (.Subscript (.Name x npos) b pos) (fScIx i fb) := by
  obtain ⟨t, p', s⟩ := hb.ex
  refine ⟨_, pe_ix ix_seq (pe_var hN hv hd hcd) p' hs, ?_⟩
  intro σ H env l r env' h e Q q
  unfold fScIx at e
  split at e
  · rename_i ns e0
    obtain ⟨⟨rb, e1⟩, ea, e⟩ := Res.bind_ok e
    dsimp only at e
    split at e
    · rename_i k
      obtain ⟨n, en, e⟩ := Res.bind_ok e
      replace en := Res.ofO_ok en
      cases e
      obtain ⟨a, e1, hs, h1⟩ := h.sc e0
      refine ⟨.ref a, e1, ?_⟩
      refine s σ H env _ _ _ h1 ea _ fun v H1 h2 => ?_
      obtain ⟨G, os, rp⟩ := h2.rep
      obtain ⟨v', ev, dd⟩ := rp.shOf List.mem_cons_self
      cases ev
      cases dd
      obtain ⟨o, ri⟩ := rp.rl.mem (ov := some (.ref a)) (s := .sc ns) (List.mem_cons_of_mem _ (List.mem_append_right _ List.mem_cons_self))
      cases ri with
      | bx bb => cases bb with
        | sc hs2 =>
          refine .inl ⟨a, ns.map V.int, k, .int n, rfl, rfl, rp.same.seq hs2, ?_, q _ H1 ?_⟩
          · unfold atI at en ⊢
            rw [List.length_map]
            cases hx : ixN ns.length k with
            | none => rw [hx] at en; cases en
            | some j =>
              rw [hx] at en
              show (ns.map V.int)[j]? = some (.int n)
              rw [List.getElem?_map, show ns[j]? = some n from en]
              rfl
          · exact h2.drop.more.shV fun _ => .int n
    · cases e
  · cases e
end
end FL

/-! FL9: built-ins by name, isinstance, the law's end -/
namespace FL
open PySem PySem.Spec PyProof.Rows L2

theorem bt_len : bootBuiltins "len" = some (.builtin "len") := by decide +kernel
theorem bt_sum : bootBuiltins "sum" = some (.builtin "sum") := by decide +kernel
theorem bt_any : bootBuiltins "any" = some (.builtin "any") := by decide +kernel
theorem bt_all : bootBuiltins "all" = some (.builtin "all") := by decide +kernel
theorem bt_abs : bootBuiltins "abs" = some (.builtin "abs") := by decide +kernel
theorem bt_max : bootBuiltins "max" = some (.builtin "max") := by decide +kernel
theorem bt_isinstance : bootBuiltins "isinstance" = some (.builtin "isinstance") := by decide +kernel
theorem bt_int : bootBuiltins "int" = some (.type "int") := by decide +kernel
theorem bt_tuple : bootBuiltins "tuple" = some (.type "tuple") := by decide +kernel
theorem bt_list : bootBuiltins "list" = some (.type "list") := by decide +kernel
theorem bt_bool : bootBuiltins "bool" = some (.type "bool") := by decide +kernel
theorem bt_str : bootBuiltins "str" = some (.type "str") := by decide +kernel
section
variable {X : Cx} {a b : Expr} {fs : EvA} {fa : EvF} {p pos : Pos}
theorem se_len (hm : X.mg "len" = none) (ha : SA X [a] fs) (hg : Gl X "len" := by rfl) (he : starEach [a] X.env = (false, eval a X.env) :: starEach [] X.env := by rfl) (hpl : (backTo pos (starEach [] X.env)).any (·.1) = false := by rfl) : SE X (.Call (.Name "len" p) [a] [] pos) (fCB lenD fs) :=
  se_cB oc_len sc_len hg hm bt_len ha (by decide) (by decide) he hpl
theorem se_sum (hc : X.calm = true) (hm : X.mg "sum" = none) (ha : SA X [a] fs) (hg : Gl X "sum" := by rfl) (he : starEach [a] X.env = (false, eval a X.env) :: starEach [] X.env := by rfl) (hpl : (backTo pos (starEach [] X.env)).any (·.1) = false := by rfl) : SE X (.Call (.Name "sum" p) [a] [] pos) (fCB sumD fs) :=
  se_cB (cr_sum hc) sc_sum hg hm bt_sum ha (by decide) (by decide) he hpl
theorem se_any (hc : X.calm = true) (hm : X.mg "any" = none) (ha : SA X [a] fs) (hg : Gl X "any" := by rfl) (he : starEach [a] X.env = (false, eval a X.env) :: starEach [] X.env := by rfl) (hpl : (backTo pos (starEach [] X.env)).any (·.1) = false := by rfl) : SE X (.Call (.Name "any" p) [a] [] pos) (fCB anyD fs) :=
  se_cB (cr_any hc) sc_any hg hm bt_any ha (by decide) (by decide) he hpl
theorem se_all (hc : X.calm = true) (hm : X.mg "all" = none) (ha : SA X [a] fs) (hg : Gl X "all" := by rfl) (he : starEach [a] X.env = (false, eval a X.env) :: starEach [] X.env := by rfl) (hpl : (backTo pos (starEach [] X.env)).any (·.1) = false := by rfl) : SE X (.Call (.Name "all" p) [a] [] pos) (fCB allD fs) :=
  se_cB (cr_all hc) sc_all hg hm bt_all ha (by decide) (by decide) he hpl
theorem se_abs (hm : X.mg "abs" = none) (ha : SA X [a] fs) (hg : Gl X "abs" := by rfl) (he : starEach [a] X.env = (false, eval a X.env) :: starEach [] X.env := by rfl) (hpl : (backTo pos (starEach [] X.env)).any (·.1) = false := by rfl) : SE X (.Call (.Name "abs" p) [a] [] pos) (fCB absD fs) :=
  se_cB call_abs sc_abs hg hm bt_abs ha (by decide) (by decide) he hpl
theorem se_max (hc : X.calm = true) (hm : X.mg "max" = none) (ha : SA X [a, b] fs) (hg : Gl X "max" := by rfl) (he : starEach [a, b] X.env = (false, eval a X.env) :: starEach [b] X.env := by rfl) (hpl : (backTo pos (starEach [b] X.env)).any (·.1) = false := by rfl) : SE X (.Call (.Name "max" p) [a, b] [] pos) (fCB maxD fs) :=
  se_cB (call_max2 hc) sc_max hg hm bt_max ha (by decide) (by decide) he hpl
theorem se_tint (hm : X.mg "int" = none) (ha : SA X [a] fs) (hg : Gl X "int" := by rfl) (he : starEach [a] X.env = (false, eval a X.env) :: starEach [] X.env := by rfl) (hpl : (backTo pos (starEach [] X.env)).any (·.1) = false := by rfl) : SE X (.Call (.Name "int" p) [a] [] pos) (fCB intD fs) :=
  se_cTy call_int1 sc_int hg hm bt_int ha (by decide) (by decide) he hpl
theorem se_ttuple (hm : X.mg "tuple" = none) (ha : SA X [a] fs) (hg : Gl X "tuple" := by rfl) (he : starEach [a] X.env = (false, eval a X.env) :: starEach [] X.env := by rfl) (hpl : (backTo pos (starEach [] X.env)).any (·.1) = false := by rfl) : SE X (.Call (.Name "tuple" p) [a] [] pos) (fCB tupleD fs) :=
  se_cTy call_tuple_of sc_tuple hg hm bt_tuple ha (by decide) (by decide) he hpl
theorem se_tlist (hm : X.mg "list" = none) (ha : SA X [a] fs) (hg : Gl X "list" := by rfl) (he : starEach [a] X.env = (false, eval a X.env) :: starEach [] X.env := by rfl) (hpl : (backTo pos (starEach [] X.env)).any (·.1) = false := by rfl) : SE X (.Call (.Name "list" p) [a] [] pos) (fCB listD fs) :=
  se_cTy call_list_of sc_list hg hm bt_list ha (by decide) (by decide) he hpl

/-! ### isinstance with one built-in class -/
def tyD : D → String
  | .none => "NoneType"
  | .bool _ => "bool"
  | .int _ => "int"
  | .str _ => "str"
  | .list _ => "list"
  | .tuple _ => "tuple"
  | .dict _ => "dict"
def isiD (T : String) (d : D) : Bool := tyD d == T || (T == "int" && tyD d == "bool")
def isiTys : List String := ["int", "bool", "str", "list", "tuple"]
theorem isi_all : ∀ a ∈ ["NoneType", "bool", "int", "str", "list", "tuple"], ∀ T ∈ isiTys, kitB a T = some (a == T || (T == "int" && a == "bool")) := by decide +kernel
def fIsi (T : String) (fa : EvF) : EvF := fOp1 (fun d => some (.sh (.bool (isiD T d)))) fa
theorem tyX_of {K : PySem.W.Frag} {G H : Hp} {v : V} {d : D} (sm : Same G H) (h : DpT K G H v d) : TyX K H v (.type (tyD d)) ∧ tyD d ∈ ["NoneType", "bool", "int", "str", "list", "tuple"] := by
  rcases h with h | ⟨p, vs, ds, rfl, rfl, hp, _⟩
  · cases h with
    | non => exact ⟨.base .non, by decide⟩
    | bl b => exact ⟨.base (.bl b), by show "bool" ∈ _; decide⟩
    | int i => exact ⟨.base (.int i), by show "int" ∈ _; decide⟩
    | str x => exact ⟨.base (.str x), by show "str" ∈ _; decide⟩
    | lst hs ha => exact ⟨.base (.lst (sm _ _ hs)), by show "list" ∈ _; decide⟩
    | tup hs ha =>
      exact ⟨.base (.tup (sm _ _ hs)), by show "tuple" ∈ _; decide⟩
  · exact ⟨.base (.lst hp), by show "list" ∈ _; decide⟩
theorem se_isi {T : String} {x : Str} {p2 : Pos} (hT : T ∈ isiTys) (hm : X.mg "isinstance" = none) (hmT : X.mg x = none) (hbT : bootBuiltins x = some (.type T)) (ha : SE X a fa) (hg : Gl X "isinstance" := by rfl) (hgT : Gl X x := by rfl) (hn : x ≠ "__name__" := by decide) (hd : (x == ("__debug__" : Str)) = false := by decide)
    (he : starEach [a, .Name x p2] X.env = (false, eval a X.env) :: starEach [.Name x p2] X.env := by rfl) (he2 : starEach [.Name x p2] X.env = (false, eval (.Name x p2) X.env) :: starEach [] X.env := by rfl) (hpl : (backTo pos (starEach [.Name x p2] X.env)).any (·.1) = false := by rfl) :
    SE X (.Call (.Name "isinstance" p) [a, .Name x p2] [] pos) (fIsi T fa) := by
  obtain ⟨t, p', s⟩ := ha.ex
  refine ⟨_, pe_callB call_isi hg hm bt_isinstance (pa_cons p' (pa_cons (pe_bltn (v := .ty T) hgT hmT hbT rfl hn hd) pa_nil he2) he) (by decide) (by decide) he hpl, ?_⟩
  intro σ H env l r env' h e Q q
  unfold fIsi fOp1 at e
  obtain ⟨⟨ra, e1⟩, ea, e⟩ := Res.bind_ok e
  obtain ⟨d, va, e⟩ := Res.bind_ok e
  replace va := Res.ofO_ok va
  cases e
  refine s σ H env l ra _ h ea _ fun v H1 h1 => ?_
  obtain ⟨G, os, rp⟩ := h1.rep
  have dx : DpT X.K G H1 v d := rp.view (σ := σ) List.mem_cons_self (fun it hi => List.mem_cons_of_mem _ (List.mem_append_left _ hi)) h1.vw va
  obtain ⟨ty, hm⟩ := tyX_of rp.same dx
  exact ⟨v, .ty T, .type (tyD d), .type T, _, rfl, .ty T, ty, kit_ty (isi_all _ hm _ hT), q _ H1 (h1.drop.shV fun _ => .bl _)⟩
end

/-! ### the law's own end -/
/-- the law's promise -/
def spLaw (K : PySem.W.Frag) : Sp := fun vs H Q _ => ∃ (a : Addr) (ns : List Int), vs = [.ref a] ∧ SqL K H a (ns.map V.int) ∧ ns.length ≤ 63 ∧ ∀ H', Q (.bl true) H'
theorem law_imp {P : Program} {w : World} {K : PySem.W.Frag} {mg : Str → Option Value} {base : Heap} {k : Nat} {f : Addr} {fd : FuncData} {ps : List Str} {F : Fn} (h : FnOk P w K mg base CX0 k f fd ps (spF K mg 1 F))
    (law : ∀ ns : List Int, ns.length ≤ 63 → ∃ as, F [.sc ns] = .ok (.sh (.bool true), as)) : FnOk P w K mg base CX0 k f fd ps (spLaw K) := by
  refine h.imp fun vs H Q E hq => ?_
  obtain ⟨a, ns, rfl, hs, hl, q⟩ := hq
  obtain ⟨as, e⟩ := law ns hl
  refine ⟨rfl, [.sc ns], [], _, as, rfl, ⟨H, [], .refl _, ?_, .nil, fun a ha => by cases ha⟩, e, fun v H' rp _ => ?_⟩
  · exact RL.cons (o := []) (os := []) (.bx (.sc hs)) .nil
  · obtain ⟨G, os, rp⟩ := rp
    obtain ⟨v', ev, d⟩ := rp.shOf List.mem_cons_self
    cases ev
    cases d
    exact q H'
theorem fnF_mk {P : Program} {w : World} {K : PySem.W.Frag} {mg : Str → Option Value} {base : Heap} {x qual : Str} {st : Stmt} {f : Addr} {fd : FuncData} {ps : List Str} {n k : Nat} {F : Fn} (Fn : Fun K x qual st f fd) (hm : mg x = some (.ref f)) (hb : Binds K fd ps []) (h : FnOk P w K mg base CX0 k f fd ps (spF K mg n F)) : FnF P w K mg base x n k F :=
  ⟨⟨f, fd, ps, hm, Fn.kp, hb, h⟩⟩
end FL

/-! FE: how the functions are reckoned, by simp -/
namespace FL
open PySem PySem.Spec PyProof.Rows L2

/-- an equation whose proof is kept -/
theorem eqq {α : Sort _} {a b : α} (h : a = b) : a = b := h
namespace Res
@[simp] theorem bind_ok' {α β : Type} (a : α) (f : α → Res β) : Res.bind (.ok a) f = f a := eqq rfl
@[simp] theorem bind_bad {α β : Type} (f : α → Res β) : Res.bind (.bad : Res α) f = .bad := eqq rfl
end Res
-- names
def varC (env : Lo) (i : Nat) : Option Sl → Res (Sl × Lo)
  | some (.sh d) => .ok (.sh d, env)
  | some (.ol _) => .ok (.vw i, env)
  | some (.od _) => .ok (.vw i, env)
  | some (.oi _ _) => .ok (.vw i, env)
  | some (.sc ns) => .ok (.sc ns, env)
  | _ => .bad
@[simp] theorem ev_var (i : Nat) (env : Lo) : fVar i env = varC env i env[i]? := by
  unfold fVar varC
  split <;> simp_all
@[simp] theorem varC_sh (env : Lo) (i : Nat) (d : D) : varC env i (some (.sh d)) = .ok (.sh d, env) := eqq rfl
@[simp] theorem varC_ol (env : Lo) (i : Nat) (d : List D) : varC env i (some (.ol d)) = .ok (.vw i, env) := eqq rfl
@[simp] theorem varC_od (env : Lo) (i : Nat) (d : List (Key × D)) : varC env i (some (.od d)) = .ok (.vw i, env) := eqq rfl
@[simp] theorem varC_sc (env : Lo) (i : Nat) (d : List Int) : varC env i (some (.sc d)) = .ok (.sc d, env) := eqq rfl
@[simp] theorem ev_c (d : D) (env : Lo) : fC d env = .ok (.sh d, env) := eqq rfl
-- views
@[simp] theorem view_sh (env : Lo) (d : D) : view env (.sh d) = some d := eqq rfl
@[simp] theorem view_ol (env : Lo) (d : List D) : view env (.ol d) = some (.list d) := eqq rfl
def viewC : Option Sl → Option D
  | some (.ol ds) => some (.list ds)
  | _ => none
@[simp] theorem view_vw (env : Lo) (i : Nat) : view env (.vw i) = viewC env[i]? := by
  show (match env[i]? with | some (Sl.ol ds) => some (PyData.list ds) | _ => none) = _
  unfold viewC
  split <;> simp_all
@[simp] theorem viewC_ol (ds : List D) : viewC (some (.ol ds)) = some (.list ds) := eqq rfl
-- operations
def opE (e : Lo) : Option Sl → Res (Sl × Lo)
  | some s => .ok (s, e)
  | none => .bad
@[simp] theorem opE_some (e : Lo) (s : Sl) : opE e (some s) = .ok (s, e) := eqq rfl
def opV (op : D → D → Option Sl) (e : Lo) : Option D → Option D → Res (Sl × Lo)
  | some a, some b => opE e (op a b)
  | _, _ => .bad
@[simp] theorem opV_some (op : D → D → Option Sl) (e : Lo) (a b : D) : opV op e (some a) (some b) = opE e (op a b) := eqq rfl
def opC2 (op : D → D → Option Sl) (ra : Sl) (p : Sl × Lo) : Res (Sl × Lo) := opV op p.2 (view p.2 ra) (view p.2 p.1)
def opC1 (op : D → D → Option Sl) (fb : EvF) (p : Sl × Lo) : Res (Sl × Lo) := (fb p.2).bind (opC2 op p.1)
@[simp] theorem opC1_ev (op : D → D → Option Sl) (fb : EvF) (ra : Sl) (e : Lo) : opC1 op fb (ra, e) = (fb e).bind (opC2 op ra) := eqq rfl
@[simp] theorem opC2_ev (op : D → D → Option Sl) (ra rb : Sl) (e : Lo) : opC2 op ra (rb, e) = opV op e (view e ra) (view e rb) := eqq rfl
@[simp] theorem ev_op (op : D → D → Option Sl) (fa fb : EvF) (env : Lo) : fOp op fa fb env = (fa env).bind (opC1 op fb) := by
  show (fa env).bind _ = _
  congr 1
  funext ⟨ra, e1⟩
  show (fb e1).bind _ = _
  congr 1
  funext ⟨rb, e2⟩
  show (Res.ofO (view e2 ra)).bind _ = opV op e2 (view e2 ra) (view e2 rb)
  cases view e2 ra with
  | none => rfl
  | some a =>
    show (Res.ofO (view e2 rb)).bind _ = _
    cases view e2 rb with
    | none => rfl
    | some b =>
      show (Res.ofO (op a b)).bind _ = opE e2 (op a b)
      cases op a b <;> rfl
def op1V (op : D → Option Sl) (e : Lo) : Option D → Res (Sl × Lo)
  | some a => opE e (op a)
  | none => .bad
@[simp] theorem op1V_some (op : D → Option Sl) (e : Lo) (a : D) : op1V op e (some a) = opE e (op a) := eqq rfl
def op1C (op : D → Option Sl) (p : Sl × Lo) : Res (Sl × Lo) := op1V op p.2 (view p.2 p.1)
@[simp] theorem op1C_ev (op : D → Option Sl) (ra : Sl) (e : Lo) : op1C op (ra, e) = op1V op e (view e ra) := eqq rfl
@[simp] theorem ev_op1 (op : D → Option Sl) (fa : EvF) (env : Lo) : fOp1 op fa env = (fa env).bind (op1C op) := by
  show (fa env).bind _ = _
  congr 1
  funext ⟨ra, e1⟩
  show (Res.ofO (view e1 ra)).bind _ = op1V op e1 (view e1 ra)
  cases view e1 ra with
  | none => rfl
  | some a =>
    show (Res.ofO (op a)).bind _ = opE e1 (op a)
    cases op a <;> rfl
@[simp] theorem ev_isi (T : String) (fa : EvF) (env : Lo) : fIsi T fa env = (fa env).bind (op1C fun d => some (.sh (.bool (isiD T d)))) := ev_op1 _ _ _
@[simp] theorem isiD_int (T : String) (i : Int) : isiD T (.int i) = (("int" : String) == T) := by
  unfold isiD tyD
  by_cases h : ("int" : String) == T <;> simp [h]
  all_goals (try (intro _; decide))
-- the operators' values
@[simp] theorem addD_int (i j : Int) : addD (.int i) (.int j) = some (.sh (.int (i + j))) := eqq rfl
@[simp] theorem subD_int (i j : Int) : subD (.int i) (.int j) = some (.sh (.int (i - j))) := eqq rfl
theorem mulD_int {i j : Int} (h : mulOk i j = true) : mulD (.int i) (.int j) = some (.sh (.int (i * j))) := if_pos h
theorem mulD_rep {ds : List D} {k : Int} (h : -(2^63) ≤ k ∧ k < 2^63 ∧ ds.length * k.toNat ≤ 16777216) : mulD (.list ds) (.int k) = some (.ol (List.replicate k.toNat ds).flatten) := if_pos h
theorem divD_int {i j : Int} (h : divOk i j = true) : divD (.int i) (.int j) = some (.sh (.int (i.fdiv j))) := if_pos h
theorem modD_int {i j : Int} (h : 0 < j) : modD (.int i) (.int j) = some (.sh (.int (i % j))) := if_pos h
theorem powD_int {i j : Int} (h : 0 ≤ j ∧ j ≤ 1000000 ∧ i.natAbs < 2 ^ 64) : powD (.int i) (.int j) = some (.sh (.int (i ^ j.toNat))) := if_pos h
@[simp] theorem negD_int (i : Int) : negD (.int i) = some (.sh (.int (-i))) := eqq rfl
@[simp] theorem cmpD_int (p : Int → Int → Bool) (i j : Int) : cmpD p (.int i) (.int j) = some (.sh (.bool (p i j))) := eqq rfl
theorem eqD_ok {a b : D} (ha : shapedD a = true) (hb : shapedD b = true) : eqD a b = some (.sh (.bool (PyData.eqv a b))) := if_pos ⟨ha, hb⟩
theorem neD_ok {a b : D} (ha : shapedD a = true) (hb : shapedD b = true) : neD a b = some (.sh (.bool (!PyData.eqv a b))) := if_pos ⟨ha, hb⟩
@[simp] theorem shaped_int (i : Int) : shapedD (.int i) = true := by
  unfold shapedD SeqAt.shaped
  rfl
theorem eqv_int (i j : Int) : PyData.eqv (.int i) (.int j) = (i == j) := by simp [PyData.eqv]
@[simp] theorem ixD_list (ds : List D) (i : Int) : ixD (.list ds) (.int i) = (atI ds i).map .sh := eqq rfl
@[simp] theorem ixD_tuple (ds : List D) (i : Int) : ixD (.tuple ds) (.int i) = (atI ds i).map .sh := eqq rfl
theorem at_nat {α : Type} {xs : List α} {n : Nat} {x : α} (h : xs[n]? = some x) : atI xs (n : Int) = some x := by
  have hn := (List.getElem?_eq_some_iff.mp h).1
  unfold atI ixN
  rw [if_pos (by omega), if_pos (by omega)]
  simpa using h
theorem at_int {α : Type} {xs : List α} {i : Int} {x : α} (h0 : 0 ≤ i) (h : xs[i.toNat]? = some x) : atI xs i = some x := by
  have : i = (i.toNat : Int) := by omega
  rw [this]
  exact at_nat h
-- arguments
@[simp] theorem ev_nil (env : Lo) : fNil env = .ok ([], env) := eqq rfl
def consC2 (r : Sl) (p : List Sl × Lo) : Res (List Sl × Lo) := .ok (r :: p.1, p.2)
def consC1 (fr : EvA) (p : Sl × Lo) : Res (List Sl × Lo) := (fr p.2).bind (consC2 p.1)
@[simp] theorem consC1_ev (fr : EvA) (r : Sl) (e : Lo) : consC1 fr (r, e) = (fr e).bind (consC2 r) := eqq rfl
@[simp] theorem consC2_ev (r : Sl) (rs : List Sl) (e : Lo) : consC2 r (rs, e) = .ok (r :: rs, e) := eqq rfl
@[simp] theorem ev_cons (fa : EvF) (fr : EvA) (env : Lo) : fCons fa fr env = (fa env).bind (consC1 fr) := eqq rfl
@[simp] theorem views_nil (env : Lo) : views env [] = some [] := eqq rfl
def viewsC (a : Option D) (b : Option (List D)) : Option (List D) := a.bind fun d => b.map (d :: ·)
@[simp] theorem viewsC_some (d : D) (ds : List D) : viewsC (some d) (some ds) = some (d :: ds) := eqq rfl
@[simp] theorem views_cons (env : Lo) (r : Sl) (rs : List Sl) : views env (r :: rs) = viewsC (view env r) (views env rs) := by
  unfold viewsC
  show (do let d ← view env r; let ds ← views env rs; some (d :: ds)) = _
  cases view env r <;> simp <;> cases views env rs <;> rfl
def cbV (op : List D → Option Sl) (e : Lo) : Option (List D) → Res (Sl × Lo)
  | some ds => opE e (op ds)
  | none => .bad
@[simp] theorem cbV_some (op : List D → Option Sl) (e : Lo) (ds : List D) : cbV op e (some ds) = opE e (op ds) := eqq rfl
def cbC (op : List D → Option Sl) (p : List Sl × Lo) : Res (Sl × Lo) := cbV op p.2 (views p.2 p.1)
@[simp] theorem cbC_ev (op : List D → Option Sl) (rs : List Sl) (e : Lo) : cbC op (rs, e) = cbV op e (views e rs) := eqq rfl
@[simp] theorem ev_cb (op : List D → Option Sl) (fs : EvA) (env : Lo) : fCB op fs env = (fs env).bind (cbC op) := by
  show (fs env).bind _ = _
  congr 1
  funext ⟨rs, e1⟩
  show (Res.ofO (views e1 rs)).bind _ = cbV op e1 (views e1 rs)
  cases views e1 rs with
  | none => rfl
  | some ds =>
    show (Res.ofO (op ds)).bind _ = opE e1 (op ds)
    cases op ds <;> rfl
@[simp] theorem lenD_list (ds : List D) : lenD [.list ds] = some (.sh (.int ds.length)) := eqq rfl
@[simp] theorem lenD_tuple (ds : List D) : lenD [.tuple ds] = some (.sh (.int ds.length)) := eqq rfl
@[simp] theorem sumD_ints (ns : List Int) : sumD [.list (ns.map PyData.int)] = some (.sh (.int ns.sum)) := by
  show (intsOf _).map _ = _
  rw [intsOf_map]; rfl
@[simp] theorem tupleD_list (ds : List D) : tupleD [.list ds] = some (.sh (.tuple ds)) := eqq rfl
@[simp] theorem tupleD_tuple (ds : List D) : tupleD [.tuple ds] = some (.sh (.tuple ds)) := eqq rfl
@[simp] theorem listD_list (ds : List D) : listD [.list ds] = some (.ol ds) := eqq rfl
@[simp] theorem listD_tuple (ds : List D) : listD [.tuple ds] = some (.ol ds) := eqq rfl
@[simp] theorem absD_int (i : Int) : absD [.int i] = some (.sh (.int (if i < 0 then -i else i))) := eqq rfl
@[simp] theorem intD_int (i : Int) : intD [.int i] = some (.sh (.int i)) := eqq rfl
@[simp] theorem intD_bool (b : Bool) : intD [.bool b] = some (.sh (.int (if b then 1 else 0))) := eqq rfl
-- freezing, displays
@[simp] theorem fz_sh (env : Lo) (d : D) : freezeR env (.sh d) = some (d, env) := eqq rfl
@[simp] theorem fz_ol (env : Lo) (d : List D) : freezeR env (.ol d) = some (.list d, env) := eqq rfl
def fzC (env : Lo) (i : Nat) : Option Sl → Option (D × Lo)
  | some (.ol ds) => some (.list ds, env.set i (.sh (.list ds)))
  | _ => none
@[simp] theorem fzC_ol (env : Lo) (i : Nat) (ds : List D) : fzC env i (some (.ol ds)) = some (.list ds, env.set i (.sh (.list ds))) := eqq rfl
@[simp] theorem fz_vw (env : Lo) (i : Nat) : freezeR env (.vw i) = fzC env i env[i]? := by
  show (match env[i]? with | some (Sl.ol ds) => some (PyData.list ds, env.set i (.sh (.list ds))) | _ => none) = _
  unfold fzC
  split <;> simp_all
@[simp] theorem fza_nil (env : Lo) : freezeAll env [] = some ([], env) := eqq rfl
def fzaC2 (d : D) (p : List D × Lo) : Option (List D × Lo) := some (d :: p.1, p.2)
def fzaC (rs : List Sl) (p : D × Lo) : Option (List D × Lo) := (freezeAll p.2 rs).bind (fzaC2 p.1)
@[simp] theorem fzaC_ev (rs : List Sl) (d : D) (e : Lo) : fzaC rs (d, e) = (freezeAll e rs).bind (fzaC2 d) := eqq rfl
@[simp] theorem fzaC2_ev (d : D) (ds : List D) (e : Lo) : fzaC2 d (ds, e) = some (d :: ds, e) := eqq rfl
@[simp] theorem fza_cons (env : Lo) (r : Sl) (rs : List Sl) : freezeAll env (r :: rs) = (freezeR env r).bind (fzaC rs) := eqq rfl
def tupV : Option (List D × Lo) → Res (Sl × Lo)
  | some (ds, e) => if ds.length ≤ 16777216 then .ok (.sh (.tuple ds), e) else .bad
  | none => .bad
def lstV : Option (List D × Lo) → Res (Sl × Lo)
  | some (ds, e) => if ds.length ≤ 16777216 then .ok (.ol ds, e) else .bad
  | none => .bad
@[simp] theorem tupV_some (ds : List D) (e : Lo) : tupV (some (ds, e)) = if ds.length ≤ 16777216 then .ok (.sh (.tuple ds), e) else .bad := eqq rfl
@[simp] theorem lstV_some (ds : List D) (e : Lo) : lstV (some (ds, e)) = if ds.length ≤ 16777216 then .ok (.ol ds, e) else .bad := eqq rfl
def tupC (p : List Sl × Lo) : Res (Sl × Lo) := tupV (freezeAll p.2 p.1)
def lstC (p : List Sl × Lo) : Res (Sl × Lo) := lstV (freezeAll p.2 p.1)
@[simp] theorem tupC_ev (rs : List Sl) (e : Lo) : tupC (rs, e) = tupV (freezeAll e rs) := eqq rfl
@[simp] theorem lstC_ev (rs : List Sl) (e : Lo) : lstC (rs, e) = lstV (freezeAll e rs) := eqq rfl
@[simp] theorem ev_tup (fs : EvA) (env : Lo) : fTup fs env = (fs env).bind tupC := by
  show (fs env).bind _ = _
  congr 1
  funext ⟨rs, e1⟩
  show (Res.ofO (freezeAll e1 rs)).bind _ = tupV (freezeAll e1 rs)
  cases freezeAll e1 rs <;> rfl
@[simp] theorem ev_lst (fs : EvA) (env : Lo) : fLst fs env = (fs env).bind lstC := by
  show (fs env).bind _ = _
  congr 1
  funext ⟨rs, e1⟩
  show (Res.ofO (freezeAll e1 rs)).bind _ = lstV (freezeAll e1 rs)
  cases freezeAll e1 rs <;> rfl
-- tests
def tstC : Sl × Lo → Res (Bool × Lo)
  | (.sh (.bool b), e) => .ok (b, e)
  | _ => .bad
@[simp] theorem tstC_ev (b : Bool) (e : Lo) : tstC (.sh (.bool b), e) = .ok (b, e) := eqq rfl
@[simp] theorem ev_tst (f : EvF) (env : Lo) : fTst f env = (f env).bind tstC := by
  show (f env).bind _ = _
  congr 1
  funext ⟨r, e1⟩
  cases r <;> first | rfl | (rename_i d; cases d <;> rfl)
def notC (p : Bool × Lo) : Res (Bool × Lo) := .ok (!p.1, p.2)
@[simp] theorem notC_ev (b : Bool) (e : Lo) : notC (b, e) = .ok (!b, e) := eqq rfl
@[simp] theorem ev_notT (f : EvT) (env : Lo) : fNotT f env = (f env).bind notC := eqq rfl
def andC (g : EvT) : Bool × Lo → Res (Bool × Lo)
  | (true, e) => g e
  | (false, e) => .ok (false, e)
def orC (g : EvT) : Bool × Lo → Res (Bool × Lo)
  | (true, e) => .ok (true, e)
  | (false, e) => g e
@[simp] theorem andC_t (g : EvT) (e : Lo) : andC g (true, e) = g e := eqq rfl
@[simp] theorem andC_f (g : EvT) (e : Lo) : andC g (false, e) = .ok (false, e) := eqq rfl
@[simp] theorem orC_t (g : EvT) (e : Lo) : orC g (true, e) = .ok (true, e) := eqq rfl
@[simp] theorem orC_f (g : EvT) (e : Lo) : orC g (false, e) = g e := eqq rfl
@[simp] theorem ev_andT (f g : EvT) (env : Lo) : fAndT f g env = (f env).bind (andC g) := by
  show (f env).bind _ = _
  congr 1
  funext ⟨b, e1⟩
  cases b <;> rfl
@[simp] theorem ev_orT (f g : EvT) (env : Lo) : fOrT f g env = (f env).bind (orC g) := by
  show (f env).bind _ = _
  congr 1
  funext ⟨b, e1⟩
  cases b <;> rfl
def andVC (g : EvF) : Bool × Lo → Res (Sl × Lo)
  | (true, e) => g e
  | (false, e) => .ok (.sh (.bool false), e)
def orVC (g : EvF) : Bool × Lo → Res (Sl × Lo)
  | (true, e) => .ok (.sh (.bool true), e)
  | (false, e) => g e
@[simp] theorem andVC_t (g : EvF) (e : Lo) : andVC g (true, e) = g e := eqq rfl
@[simp] theorem andVC_f (g : EvF) (e : Lo) : andVC g (false, e) = .ok (.sh (.bool false), e) := eqq rfl
@[simp] theorem orVC_t (g : EvF) (e : Lo) : orVC g (true, e) = .ok (.sh (.bool true), e) := eqq rfl
@[simp] theorem orVC_f (g : EvF) (e : Lo) : orVC g (false, e) = g e := eqq rfl
@[simp] theorem ev_andV (f g : EvF) (env : Lo) : fAndV f g env = (fTst f env).bind (andVC g) := by
  show (fTst f env).bind _ = _
  congr 1
  funext ⟨b, e1⟩
  cases b <;> rfl
@[simp] theorem ev_orV (f g : EvF) (env : Lo) : fOrV f g env = (fTst f env).bind (orVC g) := by
  show (fTst f env).bind _ = _
  congr 1
  funext ⟨b, e1⟩
  cases b <;> rfl
def notVC (p : Bool × Lo) : Res (Sl × Lo) := .ok (.sh (.bool (!p.1)), p.2)
@[simp] theorem notVC_ev (b : Bool) (e : Lo) : notVC (b, e) = .ok (.sh (.bool (!b)), e) := eqq rfl
@[simp] theorem ev_notV (f : EvF) (env : Lo) : fNotV f env = (fTst f env).bind notVC := eqq rfl
def ifC (fa fb : EvF) : Bool × Lo → Res (Sl × Lo)
  | (true, e) => fa e
  | (false, e) => fb e
@[simp] theorem ifC_t (fa fb : EvF) (e : Lo) : ifC fa fb (true, e) = fa e := eqq rfl
@[simp] theorem ifC_f (fa fb : EvF) (e : Lo) : ifC fa fb (false, e) = fb e := eqq rfl
@[simp] theorem ev_if (ft : EvT) (fa fb : EvF) (env : Lo) : fIf ft fa fb env = (ft env).bind (ifC fa fb) := by
  show (ft env).bind _ = _
  congr 1
  funext ⟨b, e1⟩
  cases b <;> rfl
@[simp] theorem ev_yes (env : Lo) : fYes env = .ok (true, env) := eqq rfl
-- slices
@[simp] theorem ev_noPart (env : Lo) : fNoPart env = .ok (none, env) := eqq rfl
def partC : Sl × Lo → Res (Option Int × Lo)
  | (.sh (.int i), e) => .ok (some i, e)
  | _ => .bad
@[simp] theorem partC_ev (i : Int) (e : Lo) : partC (.sh (.int i), e) = .ok (some i, e) := eqq rfl
@[simp] theorem ev_part (fa : EvF) (env : Lo) : fPart fa env = (fa env).bind partC := by
  show (fa env).bind _ = _
  congr 1
  funext ⟨r, e1⟩
  cases r <;> first | rfl | (rename_i d; cases d <;> rfl)
def slV (lo hi : Option Int) (e : Lo) : Option D → Res (Sl × Lo)
  | some a => opE e (sliceD a lo hi)
  | none => .bad
@[simp] theorem slV_some (lo hi : Option Int) (e : Lo) (a : D) : slV lo hi e (some a) = opE e (sliceD a lo hi) := eqq rfl
def slC3 (ra : Sl) (lo : Option Int) (p : Option Int × Lo) : Res (Sl × Lo) := slV lo p.1 p.2 (view p.2 ra)
def slC2 (fh : EvO) (ra : Sl) (p : Option Int × Lo) : Res (Sl × Lo) := (fh p.2).bind (slC3 ra p.1)
def slC1 (fl fh : EvO) (p : Sl × Lo) : Res (Sl × Lo) := (fl p.2).bind (slC2 fh p.1)
@[simp] theorem slC1_ev (fl fh : EvO) (ra : Sl) (e : Lo) : slC1 fl fh (ra, e) = (fl e).bind (slC2 fh ra) := eqq rfl
@[simp] theorem slC2_ev (fh : EvO) (ra : Sl) (lo : Option Int) (e : Lo) : slC2 fh ra (lo, e) = (fh e).bind (slC3 ra lo) := eqq rfl
@[simp] theorem slC3_ev (ra : Sl) (lo hi : Option Int) (e : Lo) : slC3 ra lo (hi, e) = slV lo hi e (view e ra) := eqq rfl
@[simp] theorem ev_slice (fa : EvF) (fl fh : EvO) (env : Lo) : fSlice fa fl fh env = (fa env).bind (slC1 fl fh) := by
  show (fa env).bind _ = _
  congr 1
  funext ⟨ra, e1⟩
  show (fl e1).bind _ = (fl e1).bind _
  congr 1
  funext ⟨lo, e2⟩
  show (fh e2).bind _ = (fh e2).bind _
  congr 1
  funext ⟨hi, e3⟩
  show (Res.ofO (view e3 ra)).bind _ = slV lo hi e3 (view e3 ra)
  cases view e3 ra with
  | none => rfl
  | some a =>
    show (Res.ofO (sliceD a lo hi)).bind _ = opE e3 (sliceD a lo hi)
    cases sliceD a lo hi <;> rfl
@[simp] theorem sliceD_list (ds : List D) (lo hi : Option Int) : sliceD (.list ds) lo hi = some (.ol (cutG ds lo hi)) := eqq rfl
@[simp] theorem sliceD_tuple (ds : List D) (lo hi : Option Int) : sliceD (.tuple ds) lo hi = some (.sh (.tuple (cutG ds lo hi))) := eqq rfl
theorem cutG_from {α : Type} (xs : List α) (k : Nat) : cutG xs (some (k : Int)) none = xs.drop k := by
  unfold cutG
  rw [HT.sIx_nat, HT.sIx_none]
  by_cases h : k ≤ xs.length
  · rw [Nat.min_eq_left h, List.take_of_length_le (by rw [List.length_drop]; exact Nat.le_refl _)]
  · rw [Nat.min_eq_right (by omega), List.drop_eq_nil_of_le (Nat.le_refl _), List.drop_eq_nil_of_le (by omega)]; simp
theorem cutG_to {α : Type} (xs : List α) (k : Nat) : cutG xs none (some (k : Int)) = xs.take k := by
  unfold cutG
  rw [HT.sIx_nat, HT.sIx_none, List.drop_zero, Nat.sub_zero]
  by_cases h : k ≤ xs.length
  · rw [Nat.min_eq_left h]
  · rw [Nat.min_eq_right (by omega), List.take_of_length_le (Nat.le_refl _), List.take_of_length_le (by omega)]
-- calls
@[simp] theorem mvi_nil (env : Lo) : moveIn env [] = ([], env) := eqq rfl
@[simp] theorem mvi_sh (env : Lo) (d : D) (rs : List Sl) : moveIn env (.sh d :: rs) = (.sh d :: (moveIn env rs).1, (moveIn env rs).2) := eqq rfl
@[simp] theorem mvi_ol (env : Lo) (d : List D) (rs : List Sl) : moveIn env (.ol d :: rs) = (.ol d :: (moveIn env rs).1, (moveIn env rs).2) := eqq rfl
@[simp] theorem mvi_sc (env : Lo) (d : List Int) (rs : List Sl) : moveIn env (.sc d :: rs) = (.sc d :: (moveIn env rs).1, (moveIn env rs).2) := eqq rfl
@[simp] theorem mvi_vw (env : Lo) (i : Nat) (rs : List Sl) : moveIn env (.vw i :: rs) = ((env[i]?.getD .no) :: (moveIn (env.set i .no) rs).1, (moveIn (env.set i .no) rs).2) := eqq rfl
@[simp] theorem mvb_nil (env : Lo) (as : List Sl) : moveBack env [] as = env := by cases as <;> rfl
@[simp] theorem mvb_sh (env : Lo) (d : D) (rs : List Sl) (a : Sl) (as : List Sl) : moveBack env (.sh d :: rs) (a :: as) = moveBack env rs as := eqq rfl
@[simp] theorem mvb_ol (env : Lo) (d : List D) (rs : List Sl) (a : Sl) (as : List Sl) : moveBack env (.ol d :: rs) (a :: as) = moveBack env rs as := eqq rfl
@[simp] theorem mvb_sc (env : Lo) (d : List Int) (rs : List Sl) (a : Sl) (as : List Sl) : moveBack env (.sc d :: rs) (a :: as) = moveBack env rs as := eqq rfl
@[simp] theorem mvb_vw (env : Lo) (i : Nat) (rs : List Sl) (a : Sl) (as : List Sl) : moveBack env (.vw i :: rs) (a :: as) = moveBack (env.set i a) rs as := eqq rfl
def callC2 (e2 : Lo) (rs : List Sl) (p : Sl × List Sl) : Res (Sl × Lo) := if isVw p.1 = true then .bad else .ok (p.1, moveBack e2 rs p.2)
def callC1 (F : Fn) (p : List Sl × Lo) : Res (Sl × Lo) := (F (moveIn p.2 p.1).1).bind (callC2 (moveIn p.2 p.1).2 p.1)
@[simp] theorem callC1_ev (F : Fn) (rs : List Sl) (e : Lo) : callC1 F (rs, e) = (F (moveIn e rs).1).bind (callC2 (moveIn e rs).2 rs) := eqq rfl
@[simp] theorem callC2_sh (e2 : Lo) (rs : List Sl) (d : D) (as : List Sl) : callC2 e2 rs (.sh d, as) = .ok (.sh d, moveBack e2 rs as) := eqq rfl
@[simp] theorem callC2_ol (e2 : Lo) (rs : List Sl) (d : List D) (as : List Sl) : callC2 e2 rs (.ol d, as) = .ok (.ol d, moveBack e2 rs as) := eqq rfl
@[simp] theorem ev_call (F : Fn) (fs : EvA) (env : Lo) : fCall F fs env = (fs env).bind (callC1 F) := eqq rfl
-- statements
@[simp] theorem ev_next (env : Lo) : fNext env = .ok (.nx env) := eqq rfl
@[simp] theorem ev_brk (env : Lo) : fBrk env = .ok (.bk env) := eqq rfl
@[simp] theorem ev_cont (env : Lo) : fCont env = .ok (.ct env) := eqq rfl
def seqC (g : EvS) : Out → Res Out
  | .nx e => g e
  | o => .ok o
@[simp] theorem seqC_nx (g : EvS) (e : Lo) : seqC g (.nx e) = g e := eqq rfl
@[simp] theorem seqC_rt (g : EvS) (r : Sl) (e : Lo) : seqC g (.rt r e) = .ok (.rt r e) := eqq rfl
@[simp] theorem seqC_bk (g : EvS) (e : Lo) : seqC g (.bk e) = .ok (.bk e) := eqq rfl
@[simp] theorem seqC_ct (g : EvS) (e : Lo) : seqC g (.ct e) = .ok (.ct e) := eqq rfl
@[simp] theorem ev_seq (f g : EvS) (env : Lo) : fSeq f g env = (f env).bind (seqC g) := by
  show (f env).bind _ = _
  cases f env with
  | ok o => cases o <;> rfl
  | bad => rfl
  | ex _ _ => rfl
@[simp] theorem asg_sh (e : Lo) (d : D) : asgR e (.sh d) = some (.sh d, e) := eqq rfl
@[simp] theorem asg_ol (e : Lo) (d : List D) : asgR e (.ol d) = some (.ol d, e) := eqq rfl
@[simp] theorem asg_od (e : Lo) (d : List (Key × D)) : asgR e (.od d) = some (.od d, e) := eqq rfl
@[simp] theorem asg_sc (e : Lo) (d : List Int) : asgR e (.sc d) = some (.sc d, e) := eqq rfl
@[simp] theorem asg_vw (e : Lo) (i : Nat) : asgR e (.vw i) = (freezeR e (.vw i)).map fun p => (.sh p.1, p.2) := eqq rfl
def asgV (i : Nat) : Option (Sl × Lo) → Res Out
  | some (r, e) => if i < e.length then .ok (.nx (e.set i r)) else .bad
  | none => .bad
@[simp] theorem asgV_some (i : Nat) (r : Sl) (e : Lo) : asgV i (some (r, e)) = if i < e.length then .ok (.nx (e.set i r)) else .bad := eqq rfl
def asgC (i : Nat) (p : Sl × Lo) : Res Out := asgV i (asgR p.2 p.1)
@[simp] theorem asgC_ev (i : Nat) (r : Sl) (e : Lo) : asgC i (r, e) = asgV i (asgR e r) := eqq rfl
@[simp] theorem ev_asg (i : Nat) (fa : EvF) (env : Lo) : fAsg i fa env = (fa env).bind (asgC i) := by
  show (fa env).bind _ = _
  congr 1
  funext ⟨r, e1⟩
  show (Res.ofO (asgR e1 r)).bind _ = asgV i (asgR e1 r)
  cases asgR e1 r <;> rfl
def dropC (p : Sl × Lo) : Res Out := .ok (.nx p.2)
@[simp] theorem dropC_ev (r : Sl) (e : Lo) : dropC (r, e) = .ok (.nx e) := eqq rfl
@[simp] theorem ev_drop (fa : EvF) (env : Lo) : fDrop fa env = (fa env).bind dropC := eqq rfl
@[simp] theorem ret_sh (e : Lo) (d : D) : retR e (.sh d) = some (.sh d, e) := eqq rfl
@[simp] theorem ret_ol (e : Lo) (d : List D) : retR e (.ol d) = some (.ol d, e) := eqq rfl
def retVw (e : Lo) (i : Nat) : Option Sl → Option (Sl × Lo)
  | some (.vw _) => none
  | some s => some (s, e.set i .no)
  | none => none
@[simp] theorem retVw_ol (e : Lo) (i : Nat) (d : List D) : retVw e i (some (.ol d)) = some (.ol d, e.set i .no) := eqq rfl
@[simp] theorem retVw_od (e : Lo) (i : Nat) (d : List (Key × D)) : retVw e i (some (.od d)) = some (.od d, e.set i .no) := eqq rfl
@[simp] theorem ret_vw (e : Lo) (i : Nat) : retR e (.vw i) = retVw e i e[i]? := by
  show (match e[i]? with | some (Sl.vw _) => none | some s => some (s, e.set i .no) | none => none) = _
  unfold retVw
  cases e[i]? with
  | none => rfl
  | some s => cases s <;> rfl
def retV : Option (Sl × Lo) → Res Out
  | some (r, e) => .ok (.rt r e)
  | none => .bad
@[simp] theorem retV_some (r : Sl) (e : Lo) : retV (some (r, e)) = .ok (.rt r e) := eqq rfl
def retC (p : Sl × Lo) : Res Out := retV (retR p.2 p.1)
@[simp] theorem retC_ev (r : Sl) (e : Lo) : retC (r, e) = retV (retR e r) := eqq rfl
@[simp] theorem ev_ret (fa : EvF) (env : Lo) : fRet fa env = (fa env).bind retC := by
  show (fa env).bind _ = _
  congr 1
  funext ⟨r, e1⟩
  show (Res.ofO (retR e1 r)).bind _ = retV (retR e1 r)
  cases retR e1 r <;> rfl
@[simp] theorem ev_retN (env : Lo) : fRetN env = .ok (.rt (.sh .none) env) := eqq rfl
def ifSC (f g : EvS) : Bool × Lo → Res Out
  | (true, e) => f e
  | (false, e) => g e
@[simp] theorem ifSC_t (f g : EvS) (e : Lo) : ifSC f g (true, e) = f e := eqq rfl
@[simp] theorem ifSC_f (f g : EvS) (e : Lo) : ifSC f g (false, e) = g e := eqq rfl
@[simp] theorem ev_ifS (ft : EvT) (f g : EvS) (env : Lo) : fIfS ft f g env = (ft env).bind (ifSC f g) := by
  show (ft env).bind _ = _
  congr 1
  funext ⟨b, e1⟩
  cases b <;> rfl
-- methods
def mutV (i : Nat) (op : List D → List D → Option (List D × D)) (es : List D) (e : Lo) : Option Sl → Res (Sl × Lo)
  | some (.ol ds) => match op ds es with
    | some (ds', y) => .ok (.sh y, e.set i (.ol ds'))
    | none => .bad
  | _ => .bad
def mutF (i : Nat) (op : List D → List D → Option (List D × D)) : Option (List D × Lo) → Res (Sl × Lo)
  | some (es, e) => mutV i op es e e[i]?
  | none => .bad
def mutC (i : Nat) (op : List D → List D → Option (List D × D)) (p : List Sl × Lo) : Res (Sl × Lo) := mutF i op (freezeAll p.2 p.1)
def mutS (i : Nat) (op : List D → List D → Option (List D × D)) (fs : EvA) (env : Lo) : Option Sl → Res (Sl × Lo)
  | some (.ol _) => (fs env).bind (mutC i op)
  | _ => .bad
@[simp] theorem mutS_ol (i : Nat) (op : List D → List D → Option (List D × D)) (fs : EvA) (env : Lo) (ds : List D) : mutS i op fs env (some (.ol ds)) = (fs env).bind (mutC i op) := eqq rfl
@[simp] theorem mutC_ev (i : Nat) (op : List D → List D → Option (List D × D)) (rs : List Sl) (e : Lo) : mutC i op (rs, e) = mutF i op (freezeAll e rs) := eqq rfl
@[simp] theorem mutF_some (i : Nat) (op : List D → List D → Option (List D × D)) (es : List D) (e : Lo) : mutF i op (some (es, e)) = mutV i op es e e[i]? := eqq rfl
theorem mutV_ol {i : Nat} {op : List D → List D → Option (List D × D)} {es : List D} {e : Lo} {ds ds' : List D} {y : D} (h : op ds es = some (ds', y)) : mutV i op es e (some (.ol ds)) = .ok (.sh y, e.set i (.ol ds')) := by
  unfold mutV
  simp [h]
@[simp] theorem ev_mut (i : Nat) (op : List D → List D → Option (List D × D)) (fs : EvA) (env : Lo) : fMut i op fs env = mutS i op fs env env[i]? := by
  unfold fMut mutS
  split
  · rename_i ds h
    try rw [h]
    show (fs env).bind _ = (fs env).bind _
    congr 1
    funext ⟨rs, e1⟩
    show (Res.ofO (freezeAll e1 rs)).bind _ = mutF i op (freezeAll e1 rs)
    cases freezeAll e1 rs with
    | none => rfl
    | some p =>
      obtain ⟨es, e2⟩ := p
      have key : ∀ o : Option Sl, o = e2[i]? → (match o with | some (Sl.ol ds) => (do let (ds', y) ← Res.ofO (op ds es); Res.ok (Sl.sh y, e2.set i (.ol ds'))) | _ => Res.bad) = mutV i op es e2 o := by
        intro o ho
        cases o with
        | none => rfl
        | some s =>
          cases s <;> first | rfl | skip
          rename_i ds2
          show (Res.ofO (op ds2 es)).bind _ = (match op ds2 es with | some (ds', y) => _ | none => Res.bad)
          cases op ds2 es with
          | none => rfl
          | some q => obtain ⟨a, b⟩ := q; rfl
      exact key _ rfl
  · rename_i h
    first
    | rfl
    | (split
       · rename_i ds3 h3; exact absurd h3 (h ds3)
       · rfl)
@[simp] theorem mutV_append (i : Nat) (d : D) (e : Lo) (ds : List D) : mutV i appendM [d] e (some (.ol ds)) = if ds.length < 16777216 then .ok (.sh .none, e.set i (.ol (ds ++ [d]))) else .bad := by
  unfold mutV appendM
  by_cases h : ds.length < 16777216 <;> simp [h]
@[simp] theorem mutV_clear (i : Nat) (e : Lo) (ds : List D) : mutV i clearM [] e (some (.ol ds)) = .ok (.sh .none, e.set i (.ol [])) := eqq rfl
@[simp] theorem mutV_reverse (i : Nat) (e : Lo) (ds : List D) : mutV i reverseM [] e (some (.ol ds)) = .ok (.sh .none, e.set i (.ol ds.reverse)) := eqq rfl
@[simp] theorem mutV_extend (i : Nat) (d : List D) (e : Lo) (ds : List D) : mutV i extendM [.list d] e (some (.ol ds)) = if ds.length + d.length ≤ 16777216 then .ok (.sh .none, e.set i (.ol (ds ++ d))) else .bad := by
  unfold mutV extendM
  by_cases h : ds.length + d.length ≤ 16777216 <;> simp [h]
-- walks
def iterV : Option (D × Lo) → Res (List Sl × List D × Lo)
  | some (.list ds, e) => .ok ([.sh (.list ds)], ds, e)
  | some (.tuple ds, e) => .ok ([.sh (.tuple ds)], ds, e)
  | _ => .bad
@[simp] theorem iterV_list (ds : List D) (e : Lo) : iterV (some (.list ds, e)) = .ok ([.sh (.list ds)], ds, e) := eqq rfl
@[simp] theorem iterV_tuple (ds : List D) (e : Lo) : iterV (some (.tuple ds, e)) = .ok ([.sh (.tuple ds)], ds, e) := eqq rfl
def iterC (p : Sl × Lo) : Res (List Sl × List D × Lo) := iterV (freezeR p.2 p.1)
@[simp] theorem iterC_ev (r : Sl) (e : Lo) : iterC (r, e) = iterV (freezeR e r) := eqq rfl
@[simp] theorem ev_iter (fa : EvF) (env : Lo) : fIter fa env = (fa env).bind iterC := by
  show (fa env).bind _ = _
  congr 1
  funext ⟨r, e1⟩
  show (Res.ofO (freezeR e1 r)).bind _ = iterV (freezeR e1 r)
  cases freezeR e1 r with
  | none => rfl
  | some p => obtain ⟨d, e2⟩ := p; cases d <;> rfl
def rngV (rs : List Sl) (e1 : Lo) : Res (List Sl × List D × Lo) :=
  match rs with
  | [.sh (.int j)] => if -(2 ^ 62) ≤ j ∧ j < 2 ^ 62 then .ok ([], rngD 0 j.toNat, e1) else .bad
  | [.sh (.int i), .sh (.int j)] => if -(2 ^ 62) ≤ i ∧ i < 2 ^ 62 ∧ -(2 ^ 62) ≤ j ∧ j < 2 ^ 62 then .ok ([], rngD i (j - i).toNat, e1) else .bad
  | _ => .bad
def rngC (p : List Sl × Lo) : Res (List Sl × List D × Lo) := rngV p.1 p.2
@[simp] theorem rngC_1 (j : Int) (e : Lo) : rngC ([.sh (.int j)], e) = if -(2 ^ 62) ≤ j ∧ j < 2 ^ 62 then .ok ([], rngD 0 j.toNat, e) else .bad := eqq rfl
@[simp] theorem rngC_2 (i j : Int) (e : Lo) : rngC ([.sh (.int i), .sh (.int j)], e) = if -(2 ^ 62) ≤ i ∧ i < 2 ^ 62 ∧ -(2 ^ 62) ≤ j ∧ j < 2 ^ 62 then .ok ([], rngD i (j - i).toNat, e) else .bad := eqq rfl
@[simp] theorem ev_rng (fs : EvA) (env : Lo) : fRng fs env = (fs env).bind rngC := eqq rfl
def zipV : Option (List D × Lo) → Res (List Sl × List D × Lo)
  | some ([a, b], e) => match seqOf a, seqOf b with
    | some xs, some ys => .ok ([.sh a, .sh b], zipD xs ys, e)
    | _, _ => .bad
  | _ => .bad
@[simp] theorem zipV_some (a b : D) (e : Lo) : zipV (some ([a, b], e)) = match seqOf a, seqOf b with
    | some xs, some ys => .ok ([.sh a, .sh b], zipD xs ys, e)
    | _, _ => .bad := eqq rfl
@[simp] theorem seqOf_list (ds : List D) : seqOf (.list ds) = some ds := eqq rfl
@[simp] theorem seqOf_tuple (ds : List D) : seqOf (.tuple ds) = some ds := eqq rfl
def zipC (p : List Sl × Lo) : Res (List Sl × List D × Lo) := zipV (freezeAll p.2 p.1)
@[simp] theorem zipC_ev (rs : List Sl) (e : Lo) : zipC (rs, e) = zipV (freezeAll e rs) := eqq rfl
@[simp] theorem ev_zip (fs : EvA) (env : Lo) : fZip fs env = (fs env).bind zipC := by
  show (fs env).bind _ = _
  congr 1
  funext ⟨rs, e1⟩
  show (Res.ofO (freezeAll e1 rs)).bind _ = zipV (freezeAll e1 rs)
  cases freezeAll e1 rs with
  | none => rfl
  | some p =>
    obtain ⟨ds, e2⟩ := p
    match ds with
    | [] => rfl
    | [_] => rfl
    | [a, b] =>
      show (Res.ofO (seqOf a)).bind _ = (match seqOf a, seqOf b with | some xs, some ys => _ | _, _ => Res.bad)
      cases seqOf a with
      | none => rfl
      | some xs =>
        show (Res.ofO (seqOf b)).bind _ = _
        cases seqOf b <;> rfl
    | _ :: _ :: _ :: _ => rfl
def forC (tg : Tgt) (b : EvS) (p : List Sl × List D × Lo) : Res Out := loopF tg b p.2.1 p.2.2
@[simp] theorem forC_ev (tg : Tgt) (b : EvS) (ks : List Sl) (ds : List D) (e : Lo) : forC tg b (ks, ds, e) = loopF tg b ds e := eqq rfl
@[simp] theorem ev_for (fi : EvI) (tg : Tgt) (b : EvS) (env : Lo) : fFor fi tg b env = (fi env).bind (forC tg b) := eqq rfl
def lcC2 (e1 : Lo) (own : List Nat) (p : List D × Lo) : Res (Sl × Lo) := .ok (.ol p.1, restoreE e1 own p.2)
@[simp] theorem lcC2_ev (e1 : Lo) (own : List Nat) (acc : List D) (e : Lo) : lcC2 e1 own (acc, e) = .ok (.ol acc, restoreE e1 own e) := eqq rfl
def lcC (tg : Tgt) (ft : EvT) (fe : EvF) (own : List Nat) (p : List Sl × List D × Lo) : Res (Sl × Lo) :=
  if ∀ j ∈ own, j < p.2.2.length then (compF tg ft fe own p.2.1 [] (wipeE p.2.2 own)).bind (lcC2 p.2.2 own) else .bad
@[simp] theorem lcC_ev (tg : Tgt) (ft : EvT) (fe : EvF) (own : List Nat) (ks : List Sl) (ds : List D) (e : Lo) : lcC tg ft fe own (ks, ds, e) = if ∀ j ∈ own, j < e.length then (compF tg ft fe own ds [] (wipeE e own)).bind (lcC2 e own) else .bad := eqq rfl
@[simp] theorem ev_lc (fi : EvI) (tg : Tgt) (ft : EvT) (fe : EvF) (own : List Nat) (env : Lo) : fLc fi tg ft fe own env = (fi env).bind (lcC tg ft fe own) := eqq rfl
@[simp] theorem wipeE_nil (e : Lo) : wipeE e [] = e := eqq rfl
@[simp] theorem wipeE_cons (e : Lo) (v : Nat) (vs : List Nat) : wipeE e (v :: vs) = (wipeE e vs).set v .no := eqq rfl
@[simp] theorem restoreE_nil (e e' : Lo) : restoreE e [] e' = e' := eqq rfl
@[simp] theorem restoreE_cons (e : Lo) (v : Nat) (vs : List Nat) (e' : Lo) : restoreE e (v :: vs) e' = restoreE e vs (e'.set v ((wipeE e vs)[v]?.getD .no)) := eqq rfl
-- unpacking
def unpV : Option Lo → Res Out
  | some e => .ok (.nx e)
  | none => .bad
@[simp] theorem unpV_some (e : Lo) : unpV (some e) = .ok (.nx e) := eqq rfl
def unpF (is : List Nat) : Option (D × Lo) → Res Out
  | some (d, e) => unpV (bindT (.tp is) d e)
  | none => .bad
@[simp] theorem unpF_some (is : List Nat) (d : D) (e : Lo) : unpF is (some (d, e)) = unpV (bindT (.tp is) d e) := eqq rfl
def unpC (is : List Nat) (p : Sl × Lo) : Res Out := unpF is (freezeR p.2 p.1)
@[simp] theorem unpC_ev (is : List Nat) (r : Sl) (e : Lo) : unpC is (r, e) = unpF is (freezeR e r) := eqq rfl
@[simp] theorem ev_unp (is : List Nat) (fa : EvF) (env : Lo) : fUnp is fa env = (fa env).bind (unpC is) := by
  show (fa env).bind _ = _
  congr 1
  funext ⟨r, e1⟩
  show (Res.ofO (freezeR e1 r)).bind _ = unpF is (freezeR e1 r)
  cases freezeR e1 r with
  | none => rfl
  | some p =>
    obtain ⟨d, e2⟩ := p
    show (Res.ofO (bindT (.tp is) d e2)).bind _ = unpV (bindT (.tp is) d e2)
    cases bindT (.tp is) d e2 <;> rfl
def unlF (is : List Nat) : Option (D × Lo) → Res Out
  | some (.list ds, e) => unpV (setAll e is ds)
  | _ => .bad
@[simp] theorem unlF_some (is : List Nat) (ds : List D) (e : Lo) : unlF is (some (.list ds, e)) = unpV (setAll e is ds) := eqq rfl
def unlC (is : List Nat) (p : Sl × Lo) : Res Out := unlF is (freezeR p.2 p.1)
@[simp] theorem unlC_ev (is : List Nat) (r : Sl) (e : Lo) : unlC is (r, e) = unlF is (freezeR e r) := eqq rfl
@[simp] theorem ev_unl (is : List Nat) (fa : EvF) (env : Lo) : fUnl is fa env = (fa env).bind (unlC is) := by
  show (fa env).bind _ = _
  congr 1
  funext ⟨r, e1⟩
  show (Res.ofO (freezeR e1 r)).bind _ = unlF is (freezeR e1 r)
  cases freezeR e1 r with
  | none => rfl
  | some p =>
    obtain ⟨d, e2⟩ := p
    cases d <;> first | rfl | skip
    rename_i ds
    show (Res.ofO (setAll e2 is ds)).bind _ = unpV (setAll e2 is ds)
    cases setAll e2 is ds <;> rfl
@[simp] theorem bindT_nm (i : Nat) (d : D) (e : Lo) : bindT (.nm i) d e = if i < e.length then some (e.set i (.sh d)) else none := eqq rfl
@[simp] theorem bindT_tp (is : List Nat) (ds : List D) (e : Lo) : bindT (.tp is) (.tuple ds) e = setAll e is ds := eqq rfl
@[simp] theorem setAll_nil (e : Lo) : setAll e [] [] = some e := eqq rfl
@[simp] theorem setAll_cons (e : Lo) (i : Nat) (is : List Nat) (d : D) (ds : List D) : setAll e (i :: is) (d :: ds) = if i < e.length then setAll (e.set i (.sh d)) is ds else none := eqq rfl
-- the script
def scL (env : Lo) : Option Sl → Res (Sl × Lo)
  | some (.sc ns) => .ok (.sh (.int ns.length), env)
  | _ => .bad
@[simp] theorem scL_sc (env : Lo) (ns : List Int) : scL env (some (.sc ns)) = .ok (.sh (.int ns.length), env) := eqq rfl
@[simp] theorem ev_scLen (i : Nat) (env : Lo) : fScLen i env = scL env env[i]? := by
  unfold fScLen scL
  split <;> simp_all
def scV (e : Lo) : Option Int → Res (Sl × Lo)
  | some n => .ok (.sh (.int n), e)
  | none => .bad
@[simp] theorem scV_some (e : Lo) (n : Int) : scV e (some n) = .ok (.sh (.int n), e) := eqq rfl
def scC (ns : List Int) : Sl × Lo → Res (Sl × Lo)
  | (.sh (.int k), e) => scV e (atI ns k)
  | _ => .bad
@[simp] theorem scC_ev (ns : List Int) (k : Int) (e : Lo) : scC ns (.sh (.int k), e) = scV e (atI ns k) := eqq rfl
def scS (fb : EvF) (env : Lo) : Option Sl → Res (Sl × Lo)
  | some (.sc ns) => (fb env).bind (scC ns)
  | _ => .bad
@[simp] theorem scS_sc (fb : EvF) (env : Lo) (ns : List Int) : scS fb env (some (.sc ns)) = (fb env).bind (scC ns) := eqq rfl
@[simp] theorem ev_scIx (i : Nat) (fb : EvF) (env : Lo) : fScIx i fb env = scS fb env env[i]? := by
  unfold fScIx scS
  split
  · rename_i ns h
    try rw [h]
    show (fb env).bind _ = (fb env).bind _
    congr 1
    funext ⟨r, e1⟩
    cases r <;> first | rfl | skip
    rename_i d
    cases d <;> first | rfl | skip
    rename_i k
    show (Res.ofO (atI ns k)).bind _ = scV e1 (atI ns k)
    cases atI ns k <;> rfl
  · rename_i h
    first
    | rfl
    | (split
       · rename_i ns h3; exact absurd h3 (h ns)
       · rfl)
-- defs
def runC (io : List Nat) (n : Nat) : Out → Res (Sl × List Sl)
  | .nx env => if n ≤ env.length then .ok (.sh .none, backArgs io n env) else .bad
  | .rt r env => if n ≤ env.length then .ok (r, backArgs io n env) else .bad
  | _ => .bad
@[simp] theorem runC_nx (io : List Nat) (n : Nat) (env : Lo) : runC io n (.nx env) = if n ≤ env.length then .ok (.sh .none, backArgs io n env) else .bad := eqq rfl
@[simp] theorem runC_rt (io : List Nat) (n : Nat) (r : Sl) (env : Lo) : runC io n (.rt r env) = if n ≤ env.length then .ok (r, backArgs io n env) else .bad := eqq rfl
theorem run_eq (m n : Nat) (io : List Nat) (b : EvS) (args : List Sl) : runFn m n io b args = (b (args ++ List.replicate (m - n) .no)).bind (runC io n) := by
  show (b (args ++ List.replicate (m - n) .no)).bind _ = _
  cases b (args ++ List.replicate (m - n) .no) with
  | ok o => cases o <;> rfl
  | bad => rfl
  | ex _ _ => rfl
theorem backArgs_eq (io : List Nat) (n : Nat) (env : Lo) : backArgs io n env = (List.range n).map fun k => if k ∈ io then env[k]?.getD .no else .no := rfl
-- turns that are written out
def loopC2 (tg : Tgt) (b : EvS) (ds : List D) : Out → Res Out
  | .nx e => loopF tg b ds e
  | .ct e => loopF tg b ds e
  | .bk e => .ok (.nx e)
  | .rt r e => .ok (.rt r e)
@[simp] theorem loopC2_nx (tg : Tgt) (b : EvS) (ds : List D) (e : Lo) : loopC2 tg b ds (.nx e) = loopF tg b ds e := eqq rfl
@[simp] theorem loopC2_ct (tg : Tgt) (b : EvS) (ds : List D) (e : Lo) : loopC2 tg b ds (.ct e) = loopF tg b ds e := eqq rfl
@[simp] theorem loopC2_bk (tg : Tgt) (b : EvS) (ds : List D) (e : Lo) : loopC2 tg b ds (.bk e) = .ok (.nx e) := eqq rfl
@[simp] theorem loopC2_rt (tg : Tgt) (b : EvS) (ds : List D) (r : Sl) (e : Lo) : loopC2 tg b ds (.rt r e) = .ok (.rt r e) := eqq rfl
def loopC1 (tg : Tgt) (b : EvS) (ds : List D) : Option Lo → Res Out
  | some e => (b e).bind (loopC2 tg b ds)
  | none => .bad
@[simp] theorem loopC1_some (tg : Tgt) (b : EvS) (ds : List D) (e : Lo) : loopC1 tg b ds (some e) = (b e).bind (loopC2 tg b ds) := eqq rfl
@[simp] theorem loop_nil (tg : Tgt) (b : EvS) (e : Lo) : loopF tg b [] e = .ok (.nx e) := eqq rfl
@[simp] theorem loop_cons (tg : Tgt) (b : EvS) (d : D) (ds : List D) (e : Lo) : loopF tg b (d :: ds) e = loopC1 tg b ds (bindT tg d e) := by
  show (Res.ofO (bindT tg d e)).bind _ = _
  cases bindT tg d e with
  | none => rfl
  | some e1 =>
    show (b e1).bind _ = (b e1).bind _
    cases b e1 with
    | ok o => cases o <;> rfl
    | bad => rfl
    | ex _ _ => rfl
/-! ### loops, by what holds before each turn -/
theorem loop_inv {tg : Tgt} {b : EvS} (Iv : Nat → Lo → Prop) (ds : List D) {env : Lo} (h0 : Iv 0 env) (hs : ∀ i d e, ds[i]? = some d → Iv i e → ∃ e1 e2, bindT tg d e = some e1 ∧ (b e1 = .ok (.nx e2) ∨ b e1 = .ok (.ct e2)) ∧ Iv (i + 1) e2) :
    ∃ e', loopF tg b ds env = .ok (.nx e') ∧ Iv ds.length e' := by
  have key : ∀ (ds : List D) (k : Nat) (env : Lo), Iv k env → (∀ i d e, ds[i]? = some d → Iv (k + i) e → ∃ e1 e2, bindT tg d e = some e1 ∧ (b e1 = .ok (.nx e2) ∨ b e1 = .ok (.ct e2)) ∧ Iv (k + i + 1) e2) → ∃ e', loopF tg b ds env = .ok (.nx e') ∧ Iv (k + ds.length) e' := by
    intro ds
    induction ds with
    | nil => intro k env h _; exact ⟨env, rfl, h⟩
    | cons d ds ih =>
      intro k env h hs
      obtain ⟨e1, e2, q1, q2, q3⟩ := hs 0 d env rfl h
      obtain ⟨e', r1, r2⟩ := ih (k + 1) e2 q3 fun i d e hd hi => by
        have := hs (i + 1) d e (by simpa using hd) (by rw [show k + (i + 1) = k + 1 + i by omega]; exact hi)
        rw [show k + (i + 1) + 1 = k + 1 + i + 1 by omega] at this
        exact this
      refine ⟨e', ?_, by rw [List.length_cons, show k + (ds.length + 1) = k + 1 + ds.length by omega]; exact r2⟩
      show (Res.ofO (bindT tg d env)).bind _ = _
      rw [q1]
      show (b e1).bind _ = _
      rcases q2 with q2 | q2 <;> rw [q2] <;> exact r1
  have := key ds 0 env h0 fun i d e hd hi => by simpa using hs i d e hd (by simpa using hi)
  simpa using this
theorem rng_len (i : Int) (n : Nat) : (rngD i n).length = n := by simp [rngD]
theorem rng_get {n i : Nat} {d : D} (h : (rngD 0 n)[i]? = some d) : i < n ∧ d = .int (i : Int) := by
  have hi : i < n := by
    have := (List.getElem?_eq_some_iff.mp h).1
    rwa [rng_len] at this
  have h2 : (rngD 0 n)[i]? = some (.int (0 + (i : Int))) := by simp [rngD, hi]
  rw [h2] at h
  injection h with h
  exact ⟨hi, by rw [← h, Int.zero_add]⟩
/-- a comprehension whose element changes nothing -/
theorem comp_map {tg : Tgt} {ft : EvT} {fe : EvF} {own : List Nat} {E : Lo} (g : D → D) : ∀ (ds acc : List D), ds.length + acc.length ≤ 16777216 →
    (∀ d ∈ ds, ∃ e1 r e3, bindT tg d E = some e1 ∧ ft e1 = .ok (true, e1) ∧ fe e1 = .ok (r, e3) ∧ (∃ e4, freezeR e3 r = some (g d, e4) ∧ wipeE e4 own = E)) → compF tg ft fe own ds acc E = .ok (acc ++ ds.map g, E)
  | [], acc, _, _ => by simp [compF]
  | d :: ds, acc, hl, h => by
    obtain ⟨e1, r, e3, q1, q2, q3, e4, q4, q5⟩ := h d List.mem_cons_self
    have hl' : ds.length + (acc ++ [g d]).length ≤ 16777216 := by simp at hl ⊢; omega
    have ih := comp_map g ds (acc ++ [g d]) hl' fun x hx => h x (List.mem_cons_of_mem _ hx)
    show (Res.ofO (bindT tg d E)).bind _ = _
    rw [q1]
    show (ft e1).bind _ = _
    rw [q2]
    show (fe e1).bind _ = _
    rw [q3]
    show (Res.ofO (freezeR e3 r)).bind _ = _
    rw [q4]
    show (if acc.length < 16777216 then compF tg ft fe own ds (acc ++ [g d]) (wipeE e4 own) else .bad) = _
    rw [if_pos (by simp at hl; omega), q5, ih]
    simp
end FL

/-! FB: sizes of numbers -/
namespace FL
open PySem PySem.Spec PyProof.Rows L2
/-- below 2 ^ k in size -/
def Bd (k : Nat) (x : Int) : Prop := x.natAbs < 2 ^ k
theorem Bd.mono {k m : Nat} {x : Int} (h : Bd k x) (hk : k ≤ m) : Bd m x := Nat.lt_of_lt_of_le h (Nat.pow_le_pow_right (by decide) hk)
theorem Bd.add {a b k : Nat} {x y : Int} (hx : Bd a x) (hy : Bd b y) (ha : a < k) (hb : b < k) : Bd k (x + y) := by
  unfold Bd at *
  obtain ⟨k, rfl⟩ : ∃ m, k = m + 1 := ⟨k - 1, by omega⟩
  have h1 : 2 ^ a ≤ 2 ^ k := Nat.pow_le_pow_right (by decide) (by omega)
  have h2 : 2 ^ b ≤ 2 ^ k := Nat.pow_le_pow_right (by decide) (by omega)
  have h3 : 2 ^ (k + 1) = 2 * 2 ^ k := by rw [Nat.pow_succ]; omega
  omega
theorem Bd.sub {a b k : Nat} {x y : Int} (hx : Bd a x) (hy : Bd b y) (ha : a < k) (hb : b < k) : Bd k (x - y) := by
  unfold Bd at *
  obtain ⟨k, rfl⟩ : ∃ m, k = m + 1 := ⟨k - 1, by omega⟩
  have h1 : 2 ^ a ≤ 2 ^ k := Nat.pow_le_pow_right (by decide) (by omega)
  have h2 : 2 ^ b ≤ 2 ^ k := Nat.pow_le_pow_right (by decide) (by omega)
  have h3 : 2 ^ (k + 1) = 2 * 2 ^ k := by rw [Nat.pow_succ]; omega
  omega
theorem Bd.neg {k : Nat} {x : Int} (hx : Bd k x) : Bd k (-x) := by unfold Bd at *; omega
theorem Bd.mul {a b : Nat} {x y : Int} (hx : Bd a x) (hy : Bd b y) : Bd (a + b) (x * y) := wide_lt hx hy
theorem Bd.pow {a : Nat} {x : Int} (hx : Bd a x) : ∀ n : Nat, 0 < n → Bd (a * n) (x ^ n)
  | 0, h => absurd h (by decide)
  | 1, _ => by rw [Int.pow_succ, Int.pow_zero, Int.one_mul, Nat.mul_one]; exact hx
  | n + 2, _ => by
    have ih := Bd.pow hx (n + 1) (by omega)
    rw [Int.pow_succ, show a * (n + 2) = a * (n + 1) + a by rw [Nat.mul_succ]]
    exact ih.mul hx
theorem Bd.lit {k : Nat} {x : Int} (h : x.natAbs < 2 ^ k := by decide) : Bd k x := h
theorem Bd.range {k : Nat} {x : Int} {m : Nat} (h1 : -(m : Int) ≤ x) (h2 : x ≤ (m : Int)) (hm : m < 2 ^ k := by decide) : Bd k x := by unfold Bd; omega
theorem Bd.mOk {a b : Nat} {x y : Int} (hx : Bd a x) (hy : Bd b y) (h : a + b ≤ 900000) : mulOk x y = true := by
  refine mulOk_log (show CMulW x y from wide_mul (a := a + 1) (b := b + 1) (hx.mono (by omega)) (hy.mono (by omega)) (by omega) (by omega) (by omega))
theorem Bd.dOk {b : Nat} {x y : Int} (h0 : y ≠ 0) (hy : Bd b y) (h : b ≤ 8999) : divOk x y = true := by
  unfold divOk
  rw [PyProof.noPylong_of_log2 (Nat.lt_of_lt_of_le (PySem.Flt.log2_lt_of (k := b + 1) (by omega) (hy.mono (by omega))) (by omega))]
  simpa using h0
theorem divOk_small {x y : Int} (h0 : y ≠ 0) (hy : y.natAbs < 1073741824) : divOk x y = true := by
  unfold divOk
  rw [PyProof.noPylong_small hy]
  simpa using h0
theorem Bd.mod {k : Nat} {x y : Int} (hy : Bd k y) (h0 : 0 < y) : Bd k (x % y) := by
  have h1 := Int.emod_nonneg x (show y ≠ 0 by omega)
  have h2 := Int.emod_lt_of_pos x h0
  unfold Bd at *; omega
theorem Bd.zero {k : Nat} : Bd k 0 := by
  unfold Bd
  exact Nat.two_pow_pos k
theorem Bd.sum {k : Nat} : ∀ (xs : List Int), (∀ x ∈ xs, Bd k x) → Bd (k + xs.length) xs.sum
  | [], _ => by
    show Bd _ 0
    exact .zero
  | x :: xs, h => by
    rw [List.sum_cons, List.length_cons]
    have h1 := h x List.mem_cons_self
    have h2 := Bd.sum xs fun y hy => h y (List.mem_cons_of_mem _ hy)
    exact (h1.add h2 (by omega) (by omega))
theorem fdiv_pos {x y : Int} (h : 0 < y) : x.fdiv y = x / y := Int.fdiv_eq_ediv_of_nonneg x (by omega)
end FL

/-! LA: small whole solutions (by counting), spans -/
namespace FL
/-- more pigeons than holes -/
theorem pigeon : ∀ (k K : Nat) (f : Nat → Nat), (∀ t, t < K → f t < k) → k < K → ∃ i j, i < j ∧ j < K ∧ f i = f j
  | 0, K, f, h, hk => absurd (h 0 (by omega)) (by omega)
  | k + 1, 0, f, h, hk => by omega
  | k + 1, K + 1, f, h, hk => by
    by_cases hx : ∃ t, t < K ∧ f t = f K
    · obtain ⟨t, h1, h2⟩ := hx
      exact ⟨t, K, h1, by omega, h2⟩
    · obtain ⟨i, j, h1, h2, h3⟩ := pigeon k K (fun t => if f K < f t then f t - 1 else f t) (fun t ht => by
        have a := h t (by omega)
        have b := h K (by omega)
        have c : f t ≠ f K := fun e => hx ⟨t, ht, e⟩
        show (if f K < f t then f t - 1 else f t) < k
        split <;> omega) (by omega)
      refine ⟨i, j, h1, by omega, ?_⟩
      have c1 : f i ≠ f K := fun e => hx ⟨i, by omega, e⟩
      have c2 : f j ≠ f K := fun e => hx ⟨j, by omega, e⟩
      split at h3 <;> split at h3 <;> omega
/-- numbers from their figures, base b -/
def ofFig (b : Nat) : List Nat → Nat
  | [] => 0
  | x :: xs => x + b * ofFig b xs
theorem ofFig_lt {b : Nat} : ∀ {xs : List Nat}, (∀ x ∈ xs, x < b) → ofFig b xs < b ^ xs.length
  | [], _ => by simp [ofFig]
  | x :: xs, h => by
    have h1 := h x List.mem_cons_self
    have h2 := ofFig_lt (b := b) (xs := xs) fun y hy => h y (List.mem_cons_of_mem _ hy)
    show x + b * ofFig b xs < b ^ (xs.length + 1)
    rw [Nat.pow_succ, Nat.mul_comm _ b]
    calc x + b * ofFig b xs < b + b * ofFig b xs := by omega
      _ = b * (ofFig b xs + 1) := by rw [Nat.mul_add, Nat.mul_one, Nat.add_comm]
      _ ≤ b * b ^ xs.length := Nat.mul_le_mul_left _ h2
theorem ofFig_inj {b : Nat} : ∀ {xs ys : List Nat}, xs.length = ys.length → (∀ x ∈ xs, x < b) → (∀ y ∈ ys, y < b) → ofFig b xs = ofFig b ys → xs = ys
  | [], [], _, _, _, _ => rfl
  | [], _ :: _, h, _, _, _ => by simp at h
  | _ :: _, [], h, _, _, _ => by simp at h
  | x :: xs, y :: ys, hl, hx, hy, e => by
    have e : x + b * ofFig b xs = y + b * ofFig b ys := e
    have h1 := hx x List.mem_cons_self
    have h2 := hy y List.mem_cons_self
    have a1 : (x + b * ofFig b xs) % b = x := by rw [Nat.add_mul_mod_self_left, Nat.mod_eq_of_lt h1]
    have a2 : (y + b * ofFig b ys) % b = y := by rw [Nat.add_mul_mod_self_left, Nat.mod_eq_of_lt h2]
    have exy : x = y := by rw [← a1, ← a2, e]
    subst exy
    have e2 : b * ofFig b xs = b * ofFig b ys := by omega
    have e3 := Nat.eq_of_mul_eq_mul_left (by omega) e2
    rw [ofFig_inj (by simpa using hl) (fun z hz => hx z (List.mem_cons_of_mem _ hz)) (fun z hz => hy z (List.mem_cons_of_mem _ hz)) e3]
/-- the m figures of a number, base b -/
def figs (b : Nat) : Nat → Nat → List Nat
  | 0, _ => []
  | m + 1, t => t % b :: figs b m (t / b)
theorem figs_len (b : Nat) : ∀ m t, (figs b m t).length = m
  | 0, _ => rfl
  | m + 1, t => by simp [figs, figs_len b m]
theorem figs_lt {b : Nat} (hb : 0 < b) : ∀ m t, ∀ x ∈ figs b m t, x < b
  | 0, _, x, h => by cases h
  | m + 1, t, x, h => by
    rcases List.mem_cons.mp h with rfl | h
    · exact Nat.mod_lt _ hb
    · exact figs_lt hb m _ x h
theorem figs_of {b : Nat} (hb : 0 < b) : ∀ m t, t < b ^ m → ofFig b (figs b m t) = t
  | 0, t, h => by simp at h; subst h; rfl
  | m + 1, t, h => by
    show t % b + b * ofFig b (figs b m (t / b)) = t
    rw [figs_of hb m (t / b) (by rw [Nat.div_lt_iff_lt_mul hb]; rwa [Nat.pow_succ] at h)]
    exact Nat.mod_add_div t b
/-- a sum of multiples, at one place -/
def comb (xs : List Int) (us : List (Nat → Int)) (c : Nat) : Int := (List.zipWith (fun x u => x * u c) xs us).sum
theorem comb_cons (x : Int) (xs : List Int) (u : Nat → Int) (us : List (Nat → Int)) (c : Nat) : comb (x :: xs) (u :: us) c = x * u c + comb xs us c := by simp [comb]
theorem comb_bd {A B : Nat} {c : Nat} : ∀ {xs : List Int} {us : List (Nat → Int)}, xs.length = us.length → (∀ x ∈ xs, x.natAbs ≤ B) → (∀ u ∈ us, (u c).natAbs ≤ A) → (comb xs us c).natAbs ≤ us.length * (B * A)
  | [], [], _, _, _ => by simp [comb]
  | [], _ :: _, h, _, _ => by simp at h
  | _ :: _, [], h, _, _ => by simp at h
  | x :: xs, u :: us, hl, hx, hu => by
    have ih := comb_bd (A := A) (B := B) (c := c) (xs := xs) (us := us) (by simpa using hl) (fun y hy => hx y (List.mem_cons_of_mem _ hy)) fun y hy => hu y (List.mem_cons_of_mem _ hy)
    have h1 : (x * u c).natAbs ≤ B * A := by rw [Int.natAbs_mul]; exact Nat.mul_le_mul (hx x List.mem_cons_self) (hu u List.mem_cons_self)
    rw [comb_cons, List.length_cons, Nat.succ_mul]
    have := Int.natAbs_add_le (x * u c) (comb xs us c)
    omega
theorem comb_sub : ∀ (xs ys : List Int) (us : List (Nat → Int)) (c : Nat), xs.length = us.length → ys.length = us.length → comb (List.zipWith (· - ·) xs ys) us c = comb xs us c - comb ys us c
  | [], [], [], c, _, _ => rfl
  | x :: xs, y :: ys, u :: us, c, h1, h2 => by
    rw [List.zipWith_cons_cons, comb_cons, comb_cons, comb_cons, comb_sub xs ys us c (by simpa using h1) (by simpa using h2), Int.sub_mul]
    omega
  | [], _ :: _, [], _, _, h => by simp at h
  | _ :: _, _, [], _, h, _ => by simp at h
  | [], _, _ :: _, _, h, _ => by simp at h
  | _ :: _, [], _ :: _, _, _, h => by simp at h
theorem sub_zero_all : ∀ {xs ys : List Int}, xs.length = ys.length → (∀ z ∈ List.zipWith (· - ·) xs ys, z = 0) → xs = ys
  | [], [], _, _ => rfl
  | [], _ :: _, h, _ => by simp at h
  | _ :: _, [], h, _ => by simp at h
  | x :: xs, y :: ys, hl, h => by
    have h1 : x - y = 0 := h _ (by simp)
    have h2 := sub_zero_all (xs := xs) (ys := ys) (by simpa using hl) fun z hz => h z (by rw [List.zipWith_cons_cons]; exact List.mem_cons_of_mem _ hz)
    rw [h2, show x = y by omega]
/-- a small whole solution: more unknowns than equations -/
theorem siegel (us : List (Nat → Int)) (cols : List Nat) (A : Nat) (hA : ∀ u ∈ us, ∀ c ∈ cols, (u c).natAbs ≤ A) (hk : cols.length < us.length) :
    ∃ xs : List Int, xs.length = us.length ∧ (∃ x ∈ xs, x ≠ 0) ∧ (∀ x ∈ xs, x.natAbs ≤ (2 * (us.length * A) + 1) ^ cols.length) ∧ ∀ c ∈ cols, comb xs us c = 0 := by
  obtain ⟨k, ek⟩ : ∃ k, k = us.length := ⟨_, rfl⟩
  obtain ⟨m, em⟩ : ∃ m, m = cols.length := ⟨_, rfl⟩
  obtain ⟨N, eN⟩ : ∃ N, N = (2 * (k * A) + 1) ^ m := ⟨_, rfl⟩
  obtain ⟨off, eo⟩ : ∃ off, off = k * (N * A) := ⟨_, rfl⟩
  have dig : ∀ t, ((figs (N + 1) k t).map Int.ofNat).length = us.length := fun t => by rw [List.length_map, figs_len, ek]
  have dlt : ∀ t, ∀ x ∈ (figs (N + 1) k t).map Int.ofNat, 0 ≤ x ∧ x.natAbs ≤ N := fun t x hx => by
    obtain ⟨y, hy, rfl⟩ := List.mem_map.mp hx
    have := figs_lt (by omega) k t y hy
    exact ⟨Int.natCast_nonneg _, by show y ≤ N; omega⟩
  have val : ∀ t, ∀ c ∈ cols, (comb ((figs (N + 1) k t).map Int.ofNat) us c).natAbs ≤ off := fun t c hc => by
    have := comb_bd (A := A) (B := N) (c := c) (dig t) (fun x hx => (dlt t x hx).2) fun u hu => hA u hu c hc
    rw [← ek] at this
    omega
  have fl : ∀ t, ∀ x ∈ cols.map (fun c => (comb ((figs (N + 1) k t).map Int.ofNat) us c + off).toNat), x < 2 * off + 1 := fun t x hx => by
    obtain ⟨c, hc, rfl⟩ := List.mem_map.mp hx
    have := val t c hc
    omega
  have holes : (2 * off + 1) ^ m < (N + 1) ^ k := by
    have h1 : 2 * off + 1 ≤ (2 * (k * A) + 1) * (N + 1) := by
      rw [eo]
      have : 2 * (k * (N * A)) = (2 * (k * A)) * N := by rw [Nat.mul_comm N A, ← Nat.mul_assoc k A N, ← Nat.mul_assoc 2]
      rw [this, Nat.add_mul, Nat.mul_add, Nat.mul_one]
      omega
    calc (2 * off + 1) ^ m ≤ ((2 * (k * A) + 1) * (N + 1)) ^ m := Nat.pow_le_pow_left h1 m
      _ = N * (N + 1) ^ m := by rw [Nat.mul_pow, ← eN]
      _ < (N + 1) * (N + 1) ^ m := Nat.mul_lt_mul_of_pos_right (by omega) (Nat.pow_pos (by omega))
      _ = (N + 1) ^ (m + 1) := by rw [Nat.pow_succ, Nat.mul_comm]
      _ ≤ (N + 1) ^ k := Nat.pow_le_pow_right (by omega) (by omega)
  obtain ⟨i, j, h1, h2, h3⟩ := pigeon _ _ (fun t => ofFig (2 * off + 1) (cols.map fun c => (comb ((figs (N + 1) k t).map Int.ofNat) us c + off).toNat)) (fun t _ => by
    have := ofFig_lt (fl t)
    rwa [List.length_map, ← em] at this) holes
  have h4 := ofFig_inj (by simp) (fl i) (fl j) h3
  refine ⟨List.zipWith (· - ·) ((figs (N + 1) k i).map Int.ofNat) ((figs (N + 1) k j).map Int.ofNat), ?_, ?_, ?_, ?_⟩
  · rw [List.length_zipWith, dig, dig, Nat.min_self]
  · refine Classical.byContradiction fun hn => ?_
    have e := sub_zero_all (by rw [dig, dig]) fun z hz => Classical.byContradiction fun hz0 => hn ⟨z, hz, hz0⟩
    have e2 : figs (N + 1) k i = figs (N + 1) k j := by
      have inj : Function.Injective Int.ofNat := fun a b h => Int.ofNat.inj h
      exact (List.map_inj_right (fun a b h => Int.ofNat.inj h)).mp e
    have a := figs_of (b := N + 1) (by omega) k i (by omega)
    have b := figs_of (b := N + 1) (by omega) k j h2
    rw [e2, b] at a
    omega
  · intro z hz
    rw [List.mem_iff_getElem] at hz
    obtain ⟨q, hq, rfl⟩ := hz
    simp only [List.length_zipWith] at hq
    simp only [List.getElem_zipWith]
    have a := dlt i _ (List.getElem_mem (show q < _ by omega))
    have b := dlt j _ (List.getElem_mem (show q < _ by omega))
    rw [← ek, ← em, ← eN]
    omega
  · intro c hc
    rw [comb_sub _ _ _ _ (dig i) (dig j)]
    have e : (comb ((figs (N + 1) k i).map Int.ofNat) us c + off).toNat = (comb ((figs (N + 1) k j).map Int.ofNat) us c + off).toNat := by
      obtain ⟨q, hq, rfl⟩ := List.mem_iff_getElem.mp hc
      have := congrArg (fun l => l[q]?) h4
      simpa [hq] using this
    have a := val i c hc
    have b := val j c hc
    omega
/-! ### what multiples of lines come to, and their parts -/
abbrev Vec := Nat → Int
inductive Sp (S : Vec → Prop) : Vec → Prop
  | mem {u : Vec} : S u → Sp S u
  | zero : Sp S fun _ => 0
  | add {u v : Vec} : Sp S u → Sp S v → Sp S fun j => u j + v j
  | smul {u : Vec} (c : Int) : Sp S u → Sp S fun j => c * u j
  | part {u : Vec} {c : Int} : c ≠ 0 → Sp S (fun j => c * u j) → Sp S u
theorem Sp.trans {S S' : Vec → Prop} (h : ∀ u, S u → Sp S' u) {v : Vec} (hv : Sp S v) : Sp S' v := by
  induction hv with
  | mem hu => exact h _ hu
  | zero => exact .zero
  | add _ _ a b => exact .add a b
  | smul c _ a => exact .smul c a
  | part hc _ a => exact .part hc a
theorem Sp.sub {S : Vec → Prop} {u v : Vec} (hu : Sp S u) (hv : Sp S v) : Sp S fun j => u j - v j := by
  have := Sp.add hu (Sp.smul (-1) hv)
  have e : (fun j => u j + -1 * v j) = fun j => u j - v j := by funext j; omega
  rwa [e] at this
theorem Sp.cross {S : Vec → Prop} {u v : Vec} (hu : Sp S u) (hv : Sp S v) (a b : Int) : Sp S fun j => a * u j - b * v j := Sp.sub (Sp.smul a hu) (Sp.smul b hv)
theorem Sp.comb {S : Vec → Prop} : ∀ {xs : List Int} {us : List Vec}, (∀ u ∈ us, Sp S u) → Sp S (FL.comb xs us)
  | [], us, _ => by
    have e : FL.comb [] us = fun _ => 0 := by funext c; simp [FL.comb]
    rw [e]; exact .zero
  | x :: xs, [], _ => by
    have e : FL.comb (x :: xs) [] = fun _ => 0 := by funext c; simp [FL.comb]
    rw [e]; exact .zero
  | x :: xs, u :: us, h => by
    have e : FL.comb (x :: xs) (u :: us) = fun j => x * u j + FL.comb xs us j := by funext c; exact comb_cons x xs u us c
    rw [e]
    exact .add (.smul x (h u List.mem_cons_self)) (Sp.comb fun v hv => h v (List.mem_cons_of_mem _ hv))
/-- all of a span share what its lines share, a linear thing that is 0 -/
theorem Sp.kills {S : Vec → Prop} (L : Vec → Vec) (h0 : L (fun _ => 0) = fun _ => 0) (ha : ∀ u v, L (fun j => u j + v j) = fun j => L u j + L v j) (hs : ∀ c u, L (fun j => c * u j) = fun j => c * L u j) (hS : ∀ u, S u → L u = fun _ => 0) {v : Vec} (hv : Sp S v) : L v = fun _ => 0 := by
  induction hv with
  | mem hu => exact hS _ hu
  | zero => exact h0
  | add _ _ a b => rw [ha, a, b]; rfl
  | smul c _ a => rw [hs, a]; funext j; simp
  | @part u c hc _ a =>
    rw [hs] at a
    funext j
    have := congrFun a j
    rcases Int.mul_eq_zero.mp this with h | h
    · exact absurd h hc
    · exact h
/-- rows with their heads, in the order in which they are cleared away: each later row is 0 at the earlier heads -/
structure Tri (F : List (Nat × Vec)) : Prop where
  ord : F.Pairwise fun a b => b.2 a.1 = 0
  top : ∀ a ∈ F, a.2 a.1 ≠ 0
def elim : List (Nat × Vec) → Vec → Vec
  | [], y => y
  | a :: F, y => elim F fun j => a.2 a.1 * y j - y a.1 * a.2 j
theorem elim_zero : ∀ F, elim F (fun _ => 0) = fun _ => 0
  | [] => rfl
  | a :: F => by
    show elim F (fun j => a.2 a.1 * 0 - 0 * a.2 j) = _
    have : (fun j => a.2 a.1 * 0 - 0 * a.2 j) = fun _ : Nat => (0 : Int) := by funext j; simp
    rw [this, elim_zero F]
theorem elim_add : ∀ F u v, elim F (fun j => u j + v j) = fun j => elim F u j + elim F v j
  | [], _, _ => rfl
  | a :: F, u, v => by
    show elim F (fun j => a.2 a.1 * (u j + v j) - (u a.1 + v a.1) * a.2 j) = _
    have : (fun j => a.2 a.1 * (u j + v j) - (u a.1 + v a.1) * a.2 j) = fun j => (a.2 a.1 * u j - u a.1 * a.2 j) + (a.2 a.1 * v j - v a.1 * a.2 j) := by
      funext j
      rw [Int.mul_add, Int.add_mul]
      omega
    rw [this, elim_add F]
    rfl
theorem elim_smul : ∀ F c u, elim F (fun j => c * u j) = fun j => c * elim F u j
  | [], _, _ => rfl
  | a :: F, c, u => by
    show elim F (fun j => a.2 a.1 * (c * u j) - (c * u a.1) * a.2 j) = _
    have : (fun j => a.2 a.1 * (c * u j) - (c * u a.1) * a.2 j) = fun j => c * (a.2 a.1 * u j - u a.1 * a.2 j) := by
      funext j
      rw [Int.mul_sub, Int.mul_left_comm, Int.mul_assoc]
    rw [this, elim_smul F]
    rfl
theorem elim_row : ∀ {F : List (Nat × Vec)}, Tri F → ∀ a ∈ F, elim F a.2 = fun _ => 0
  | [], _, a, h => by cases h
  | b :: F, t, a, h => by
    have t' : Tri F := ⟨t.ord.of_cons, fun x hx => t.top x (List.mem_cons_of_mem _ hx)⟩
    rcases List.mem_cons.mp h with rfl | h
    · show elim F (fun j => a.2 a.1 * a.2 j - a.2 a.1 * a.2 j) = _
      have : (fun j => a.2 a.1 * a.2 j - a.2 a.1 * a.2 j) = fun _ : Nat => (0 : Int) := by funext j; omega
      rw [this, elim_zero]
    · have e0 : a.2 b.1 = 0 := (List.pairwise_cons.mp t.ord).1 a h
      show elim F (fun j => b.2 b.1 * a.2 j - a.2 b.1 * b.2 j) = _
      have : (fun j => b.2 b.1 * a.2 j - a.2 b.1 * b.2 j) = fun j => b.2 b.1 * a.2 j := by funext j; rw [e0]; simp
      rw [this, elim_smul, elim_row t' a h]
      funext j; simp
theorem elim_off : ∀ {F : List (Nat × Vec)}, Tri F → ∀ y : Vec, (∀ a ∈ F, y a.1 = 0) → ∃ P : Int, P ≠ 0 ∧ elim F y = fun j => P * y j
  | [], _, y, _ => ⟨1, by decide, by funext j; simp [elim]⟩
  | b :: F, t, y, h => by
    have t' : Tri F := ⟨t.ord.of_cons, fun x hx => t.top x (List.mem_cons_of_mem _ hx)⟩
    obtain ⟨P, hP, e⟩ := elim_off t' y fun a ha => h a (List.mem_cons_of_mem _ ha)
    have e0 := h b List.mem_cons_self
    refine ⟨b.2 b.1 * P, Int.mul_ne_zero (t.top b List.mem_cons_self) hP, ?_⟩
    show elim F (fun j => b.2 b.1 * y j - y b.1 * b.2 j) = _
    have : (fun j => b.2 b.1 * y j - y b.1 * b.2 j) = fun j => b.2 b.1 * y j := by funext j; rw [e0]; simp
    rw [this, elim_smul, e]
    funext j
    rw [Int.mul_assoc]
def rowsOf (F : List (Nat × Vec)) : Vec → Prop := fun u => ∃ a ∈ F, u = a.2
/-- of the span, 0 at all heads: 0 -/
theorem Tri.zero {F : List (Nat × Vec)} (t : Tri F) {y : Vec} (hy : Sp (rowsOf F) y) (h : ∀ a ∈ F, y a.1 = 0) : ∀ j, y j = 0 := by
  have k := Sp.kills (elim F) (elim_zero F) (elim_add F) (elim_smul F) (fun u ⟨a, ha, e⟩ => by rw [e]; exact elim_row t a ha) hy
  obtain ⟨P, hP, e⟩ := elim_off t y h
  intro j
  have := congrFun (e.symm.trans k) j
  rcases Int.mul_eq_zero.mp this with q | q
  · exact absurd q hP
  · exact q
/-- of the span, both 0 at all heads but one: parallel -/
theorem Tri.par {F : List (Nat × Vec)} (t : Tri F) {y z : Vec} (hy : Sp (rowsOf F) y) (hz : Sp (rowsOf F) z) (h : Nat) (ey : ∀ a ∈ F, a.1 ≠ h → y a.1 = 0) (ez : ∀ a ∈ F, a.1 ≠ h → z a.1 = 0) : ∀ j, z h * y j = y h * z j := by
  have k := t.zero (Sp.cross hy hz (z h) (y h)) fun a ha => by
    by_cases e : a.1 = h
    · rw [e, Int.mul_comm]; omega
    · simp only [ey a ha e, ez a ha e]; simp
  intro j
  have := k j
  omega
theorem elim_append : ∀ F1 F2 y, elim (F1 ++ F2) y = elim F2 (elim F1 y)
  | [], _, _ => rfl
  | a :: F1, F2, y => elim_append F1 F2 _
theorem elim_at : ∀ (F : List (Nat × Vec)) (y : Vec) (h : Nat), (∀ b ∈ F, b.2 b.1 ≠ 0) → (∀ b ∈ F, b.2 h = 0) → ∃ P : Int, P ≠ 0 ∧ elim F y h = P * y h
  | [], y, h, _, _ => ⟨1, by decide, by simp [elim]⟩
  | b :: F, y, h, t, z => by
    obtain ⟨P, hP, e⟩ := elim_at F (fun j => b.2 b.1 * y j - y b.1 * b.2 j) h (fun x hx => t x (List.mem_cons_of_mem _ hx)) fun x hx => z x (List.mem_cons_of_mem _ hx)
    refine ⟨P * b.2 b.1, Int.mul_ne_zero hP (t b List.mem_cons_self), ?_⟩
    show elim F (fun j => b.2 b.1 * y j - y b.1 * b.2 j) h = _
    rw [e, z b List.mem_cons_self, Int.mul_assoc]
    simp
theorem Tri.sub {F F' : List (Nat × Vec)} (t : Tri F) (h : F'.Sublist F) : Tri F' := ⟨t.ord.sublist h, fun a ha => t.top a (h.subset ha)⟩
/-- no row comes of the others -/
theorem Tri.free {F1 F2 : List (Nat × Vec)} {a : Nat × Vec} (t : Tri (F1 ++ a :: F2)) : ¬ Sp (rowsOf (F1 ++ F2)) a.2 := by
  intro hs
  have tt : Tri (F1 ++ F2) := t.sub (List.Sublist.append_left (List.sublist_cons_self a F2) F1)
  have k := Sp.kills (elim (F1 ++ F2)) (elim_zero _) (elim_add _) (elim_smul _) (fun u ⟨b, hb, e⟩ => by rw [e]; exact elim_row tt b hb) hs
  have o := List.pairwise_append.mp t.ord
  have t1 : Tri F1 := t.sub (List.sublist_append_left F1 _)
  obtain ⟨P, hP, e1⟩ := elim_off t1 a.2 fun b hb => o.2.2 b hb a List.mem_cons_self
  obtain ⟨Q, hQ, e2⟩ := elim_at F2 (fun j => P * a.2 j) a.1 (fun b hb => t.top b (by simp [hb])) fun b hb => (List.pairwise_cons.mp o.2.1).1 b hb
  rw [elim_append, e1] at k
  have := congrFun k a.1
  rw [e2] at this
  exact Int.mul_ne_zero hQ (Int.mul_ne_zero hP (t.top a (by simp))) this
/-- none of these lines comes of the ones ahead of it -/
def Indep : List Vec → Prop
  | [] => True
  | u :: us => (¬ Sp (fun v => v ∈ us) u) ∧ Indep us
theorem indep_comb : ∀ {us : List Vec}, Indep us → ∀ xs : List Int, xs.length = us.length → (∀ j, comb xs us j = 0) → ∀ x ∈ xs, x = 0
  | [], _, [], _, _, x, hx => by cases hx
  | [], _, _ :: _, h, _, _, _ => by simp at h
  | _ :: _, _, [], h, _, _, _ => by simp at h
  | u :: us, hi, y :: ys, hl, hz, x, hx => by
    have hl' : ys.length = us.length := by simpa using hl
    by_cases h0 : y = 0
    · rcases List.mem_cons.mp hx with rfl | hx
      · exact h0
      · refine indep_comb hi.2 ys hl' (fun j => ?_) x hx
        have := hz j
        rw [comb_cons, h0] at this
        simpa using this
    · refine absurd ?_ hi.1
      refine Sp.part (c := -y) (by omega) ?_
      have e : (fun j => -y * u j) = comb ys us := by
        funext j
        have := hz j
        rw [comb_cons] at this
        rw [Int.neg_mul]
        omega
      rw [e]
      exact Sp.comb fun v hv => .mem hv
/-- a small vector of the span that is 0 at all heads but one -/
theorem small {F : List (Nat × Vec)} (t : Tri F) {us : List Vec} (hu : ∀ u ∈ us, Sp (rowsOf F) u) (hi : Indep us) (A : Nat) (hA : ∀ u ∈ us, ∀ c, (u c).natAbs ≤ A) (h : Nat) (cols : List Nat) (hc : ∀ a ∈ F, a.1 ≠ h → a.1 ∈ cols) (hk : cols.length < us.length) :
    ∃ z : Vec, Sp (rowsOf F) z ∧ (∀ a ∈ F, a.1 ≠ h → z a.1 = 0) ∧ z h ≠ 0 ∧ ∀ c, (z c).natAbs ≤ us.length * ((2 * (us.length * A) + 1) ^ cols.length * A) := by
  obtain ⟨xs, hl, ⟨x, hx, hx0⟩, hb, hz⟩ := siegel us cols A (fun u hu c _ => hA u hu c) hk
  have hs : Sp (rowsOf F) (comb xs us) := Sp.comb hu
  refine ⟨comb xs us, hs, fun a ha hn => hz _ (hc a ha hn), fun e => ?_, fun c => comb_bd hl hb fun u hu => hA u hu c⟩
  have zz := t.zero hs fun a ha => by
    by_cases q : a.1 = h
    · rw [q]; exact e
    · exact hz _ (hc a ha q)
  exact hx0 (indep_comb hi xs hl zz x hx)
/-- a primitive vector is the least of those parallel to it -/
theorem prim_least {y z : Vec} {h : Nat} (hp : ∀ d : Int, (∀ j, d ∣ y j) → d ∣ 1) (hz : z h ≠ 0) (e : ∀ j, z h * y j = y h * z j) : ∀ j, (y j).natAbs ≤ (z j).natAbs := by
  have hy : y h ≠ 0 := fun q => by
    have := hp 0 fun j => by
      have := e j
      rw [q, Int.zero_mul] at this
      rcases Int.mul_eq_zero.mp this with r | r
      · exact absurd r hz
      · rw [r]; exact Int.dvd_refl 0
    simp at this
  obtain ⟨g, eg⟩ : ∃ g : Nat, g = Int.gcd (y h) (z h) := ⟨_, rfl⟩
  have g0 : g ≠ 0 := by rw [eg]; intro q; exact hy (Int.gcd_eq_zero_iff.mp q).1
  obtain ⟨a, ha⟩ : (g : Int) ∣ y h := by rw [eg]; exact Int.gcd_dvd_left ..
  obtain ⟨b, hb⟩ : (g : Int) ∣ z h := by rw [eg]; exact Int.gcd_dvd_right ..
  have cop : Int.gcd a b = 1 := by
    have q : Int.gcd ((g : Int) * a) ((g : Int) * b) = g := by rw [← ha, ← hb, ← eg]
    rw [Int.gcd_mul_left] at q
    have q2 : g * Int.gcd a b = g * 1 := by simpa using q
    exact Nat.eq_of_mul_eq_mul_left (by omega) q2
  have eb : ∀ j, b * y j = a * z j := fun j => by
    have := e j
    rw [ha, hb, Int.mul_assoc, Int.mul_assoc] at this
    exact Int.eq_of_mul_eq_mul_left (by omega) this
  have da : a ∣ 1 := hp a fun j => by
    have : a ∣ b * y j := ⟨z j, eb j⟩
    have q := Int.natAbs_dvd_natAbs.mpr this
    rw [Int.natAbs_mul] at q
    have c2 : Nat.Coprime a.natAbs b.natAbs := cop
    exact Int.natAbs_dvd_natAbs.mp (c2.dvd_of_dvd_mul_left q)
  have a1 : a.natAbs = 1 := by
    have := Int.natAbs_dvd_natAbs.mpr da
    simpa using this
  intro j
  have q := congrArg Int.natAbs (eb j)
  rw [Int.natAbs_mul, Int.natAbs_mul, a1, Nat.one_mul] at q
  have b0 : b.natAbs ≠ 0 := fun r => hz (by rw [hb, Int.natAbs_eq_zero.mp r, Int.mul_zero])
  rw [← q]
  exact Nat.le_mul_of_pos_left _ (by omega)
/-- rows by rising heads, each with the line that it came of -/
inductive Chain : List (Nat × Vec) → List Vec → Prop
  | nil : Chain [] []
  | cons {a : Nat × Vec} {G : List (Nat × Vec)} {L : Vec} {us : List Vec} : Chain G us → a.2 a.1 ≠ 0 → (∀ b ∈ G, a.2 b.1 = 0) → Sp (rowsOf (a :: G)) L → Sp (fun v => v = L ∨ rowsOf G v) a.2 → Chain (a :: G) (L :: us)
theorem rowsOf_perm {F G : List (Nat × Vec)} (h : ∀ a, a ∈ F ↔ a ∈ G) : rowsOf F = rowsOf G := by
  funext u
  unfold rowsOf
  apply propext
  constructor
  · rintro ⟨a, ha, e⟩; exact ⟨a, (h a).mp ha, e⟩
  · rintro ⟨a, ha, e⟩; exact ⟨a, (h a).mpr ha, e⟩
theorem Chain.tri {G : List (Nat × Vec)} {us : List Vec} (h : Chain G us) : Tri G.reverse := by
  induction h with
  | nil => exact ⟨.nil, fun a h => by cases h⟩
  | @cons a G L us _ h0 hz _ _ ih =>
    rw [List.reverse_cons]
    refine ⟨List.pairwise_append.mpr ⟨ih.ord, List.pairwise_singleton _ _, fun b hb c hc => ?_⟩, fun b hb => ?_⟩
    · rw [List.mem_singleton] at hc
      subst hc
      exact hz b (List.mem_reverse.mp hb)
    · rcases List.mem_append.mp hb with hb | hb
      · exact ih.top b hb
      · rw [List.mem_singleton] at hb; subst hb; exact h0
theorem Chain.len {G : List (Nat × Vec)} {us : List Vec} (h : Chain G us) : us.length = G.length := by
  induction h with
  | nil => rfl
  | cons _ _ _ _ _ ih => simp [ih]
theorem Chain.ins {G : List (Nat × Vec)} {us : List Vec} (h : Chain G us) : ∀ u ∈ us, Sp (rowsOf G) u := by
  induction h with
  | nil => exact fun u hu => by cases hu
  | @cons a G L us _ _ _ hL _ ih =>
    intro u hu
    rcases List.mem_cons.mp hu with rfl | hu
    · exact hL
    · exact Sp.trans (fun v ⟨b, hb, e⟩ => .mem ⟨b, List.mem_cons_of_mem _ hb, e⟩) (ih u hu)
theorem Chain.indep {G : List (Nat × Vec)} {us : List Vec} (h : Chain G us) : Indep us := by
  induction h with
  | nil => trivial
  | @cons a G L us hc h0 hz hL ha ih =>
    refine ⟨fun hs => ?_, ih⟩
    have h1 : Sp (rowsOf G) L := Sp.trans (fun v hv => hc.ins v hv) hs
    have h2 : Sp (rowsOf G) a.2 := Sp.trans (fun v hv => by
      rcases hv with rfl | hv
      · exact h1
      · exact .mem hv) ha
    have t := (Chain.cons hc h0 hz hL ha).tri
    rw [List.reverse_cons] at t
    refine Tri.free (F1 := G.reverse) (F2 := []) t ?_
    rw [List.append_nil, rowsOf_perm (G := G) fun x => List.mem_reverse]
    exact h2
/-- the lowest row of a chain, if primitive, is small -/
theorem Chain.small {a : Nat × Vec} {G : List (Nat × Vec)} {us : List Vec} (h : Chain (a :: G) us) (A : Nat) (hA : ∀ u ∈ us, ∀ c, (u c).natAbs ≤ A) (hp : ∀ d : Int, (∀ j, d ∣ a.2 j) → d ∣ 1) (hz : ∀ b ∈ G, a.2 b.1 = 0) :
    ∀ j, (a.2 j).natAbs ≤ (G.length + 1) * ((2 * ((G.length + 1) * A) + 1) ^ G.length * A) := by
  have t := h.tri
  have er : rowsOf (a :: G).reverse = rowsOf (a :: G) := rowsOf_perm fun x => List.mem_reverse
  have hl : us.length = G.length + 1 := h.len
  obtain ⟨z, hs, h1, h2, h3⟩ := FL.small t (us := us) (fun u hu => by rw [er]; exact h.ins u hu) h.indep A hA a.1 (G.map (·.1)) (fun b hb hn => by
    rcases List.mem_cons.mp (List.mem_reverse.mp hb) with rfl | hb
    · exact absurd rfl hn
    · exact List.mem_map.mpr ⟨b, hb, rfl⟩) (by rw [List.length_map, hl]; omega)
  have pa := t.par (y := a.2) (z := z) (by rw [er]; exact .mem ⟨a, List.mem_cons_self, rfl⟩) hs a.1 (fun b hb hn => by
    rcases List.mem_cons.mp (List.mem_reverse.mp hb) with rfl | hb
    · exact absurd rfl hn
    · exact hz b hb) h1
  intro j
  have q := prim_least hp h2 pa j
  have r := h3 j
  rw [List.length_map, hl] at r
  omega
end FL

/-! EP: settled lists, in plain Lean -/
namespace EN
open FL
theorem gcd_step {a b : Int} (ha : 0 ≤ a) (hb : 0 ≤ b) : Int.gcd b (a % b) = Int.gcd a b := by
  obtain ⟨m, rfl⟩ := Int.eq_ofNat_of_zero_le ha
  obtain ⟨n, rfl⟩ := Int.eq_ofNat_of_zero_le hb
  show Nat.gcd n ((m : Int) % (n : Int)).natAbs = Nat.gcd m n
  rw [show ((m : Int) % (n : Int)).natAbs = m % n by rw [← Int.natCast_emod]; rfl, Nat.gcd_comm n, ← Nat.gcd_rec, Nat.gcd_comm]
def hd (xs : List Int) : Nat → Option Nat
  | 0 => none
  | p + 1 => if xs[p]?.getD 0 = 0 then hd xs p else some p
def headO (xs : List Int) : Option Nat := hd xs xs.length
theorem hd_none {xs : List Int} : ∀ {p : Nat}, hd xs p = none → ∀ q, q < p → xs[q]?.getD 0 = 0
  | 0, _, q, h => absurd h (by omega)
  | p + 1, e, q, h => by
    unfold hd at e
    split at e
    · rename_i h0
      by_cases hq : q = p
      · rw [hq]; exact h0
      · exact hd_none e q (by omega)
    · cases e
theorem hd_some {xs : List Int} : ∀ {p q : Nat}, hd xs p = some q → q < p ∧ xs[q]?.getD 0 ≠ 0 ∧ ∀ j, q < j → j < p → xs[j]?.getD 0 = 0
  | 0, q, e => by cases e
  | p + 1, q, e => by
    unfold hd at e
    split at e
    · rename_i h0
      obtain ⟨h1, h2, h3⟩ := hd_some e
      refine ⟨by omega, h2, fun j a b => ?_⟩
      by_cases hj : j = p
      · rw [hj]; exact h0
      · exact h3 j a (by omega)
    · rename_i h0
      cases e
      exact ⟨by omega, h0, fun j a b => by omega⟩
def contF (g : Nat) (xs : List Int) : Nat := xs.foldl (fun g x => Int.gcd g x) g
def cont (xs : List Int) : Nat := contF 0 xs
theorem contF_cons (g : Nat) (x : Int) (xs : List Int) : contF g (x :: xs) = contF (Int.gcd g x) xs := rfl
theorem contF_dvd (d : Int) : ∀ (xs : List Int) (g : Nat), (d ∣ (contF g xs : Int)) ↔ (d ∣ (g : Int) ∧ ∀ x ∈ xs, d ∣ x)
  | [], g => by simp [contF]
  | x :: xs, g => by
    rw [contF_cons, contF_dvd d xs]
    constructor
    · rintro ⟨h1, h2⟩
      refine ⟨Int.dvd_trans h1 (Int.gcd_dvd_left ..), fun y hy => ?_⟩
      rcases List.mem_cons.mp hy with rfl | hy
      · exact Int.dvd_trans h1 (Int.gcd_dvd_right ..)
      · exact h2 y hy
    · rintro ⟨h1, h2⟩
      exact ⟨Int.dvd_coe_gcd h1 (h2 x List.mem_cons_self), fun y hy => h2 y (List.mem_cons_of_mem _ hy)⟩
theorem cont_dvd (d : Int) (xs : List Int) : (d ∣ (cont xs : Int)) ↔ ∀ x ∈ xs, d ∣ x := by
  unfold cont
  rw [contF_dvd]
  simp
theorem cont_zero {xs : List Int} : cont xs = 0 ↔ ∀ x ∈ xs, x = 0 := by
  have := cont_dvd 0 xs
  constructor
  · intro h x hx
    rw [h] at this
    exact Int.zero_dvd.mp (this.mp (by simp) x hx)
  · intro h
    have h2 := this.mpr fun x hx => by rw [h x hx]; exact Int.dvd_refl 0
    have := Int.zero_dvd.mp h2
    omega
theorem head_of {xs : List Int} (h : cont xs ≠ 0) : ∃ p x, headO xs = some p ∧ xs[p]? = some x ∧ x ≠ 0 := by
  cases e : headO xs with
  | none =>
    refine absurd (cont_zero.mpr fun x hx => ?_) h
    obtain ⟨i, hi, rfl⟩ := List.mem_iff_getElem.mp hx
    have := hd_none e i hi
    rw [List.getElem?_eq_getElem hi, Option.getD_some] at this
    exact this
  | some p =>
    obtain ⟨h1, h2, _⟩ := hd_some e
    rw [List.getElem?_eq_getElem h1, Option.getD_some] at h2
    exact ⟨p, _, rfl, List.getElem?_eq_getElem h1, h2⟩
def lead (xs : List Int) : Int := match headO xs with
  | none => 0
  | some p => xs[p]?.getD 0
def primG (xs : List Int) : Int := if lead xs < 0 then -(cont xs : Int) else cont xs
def primF (xs : List Int) : List Int := if cont xs = 0 then xs else xs.map fun x => x.fdiv (primG xs)
def rawF (xs ys : List Int) (p : Nat) : List Int := List.zipWith (fun a b => a * (ys[p]?.getD 0) - b * (xs[p]?.getD 0)) xs ys
def clearF (xs ys : List Int) (p : Nat) : List Int := primF (rawF xs ys p)
theorem rawF_len (xs ys : List Int) (p : Nat) (h : xs.length = ys.length) : (rawF xs ys p).length = xs.length := by unfold rawF; simp [h]
/-- the rows by their heads -/
abbrev Tab := List (Nat × List Int)
def getT (t : Tab) (p : Nat) : Option (List Int) := (t.find? fun e => decide (e.1 = p)).map (·.2)
/-- how often put_in clears: until no row stands at the head -/
def putF (t : Tab) : Nat → List Int → Option (List Int)
  | 0, _ => none
  | n + 1, left => match headO left with
    | none => some left
    | some p => match getT t p with
      | none => some left
      | some row => putF t n (clearF left row p)
/-- all that comes on the way may be reckoned -/
def putOk (n k : Nat) (t : Tab) : Nat → List Int → Prop
  | 0, _ => True
  | f + 1, left => left.length = n ∧ (∀ x ∈ left, Bd k x) ∧ match headO left with
    | none => True
    | some p => match getT t p with
      | none => True
      | some row => row.length = n ∧ (∀ x ∈ row, Bd k x) ∧ (∀ x ∈ rawF left row p, Bd 13500 x) ∧ putOk n k t f (clearF left row p)
theorem putF_free {t : Tab} : ∀ {f : Nat} {left fin : List Int}, putF t f left = some fin → ∀ p, headO fin = some p → getT t p = none
  | 0, left, fin, e, _, _ => by cases e
  | f + 1, left, fin, e, p, hp => by
    unfold putF at e
    cases ep : headO left with
    | none =>
      rw [ep] at e
      cases e
      rw [ep] at hp; cases hp
    | some q =>
      rw [ep] at e
      cases eg : getT t q with
      | none =>
        simp only [eg] at e
        cases e
        rw [ep] at hp; cases hp
        exact eg
      | some row =>
        simp only [eg] at e
        exact putF_free e p hp
def addT (t : Tab) (fin : List Int) : Tab := match headO fin with
  | none => t
  | some p => t ++ [(p, fin)]
/-- the lines go in, one after the other -/
inductive PutRun (n k : Nat) : Tab → List (List Int) → Tab → Prop
  | nil (t : Tab) : PutRun n k t [] t
  | cons {t t' : Tab} {line fin : List Int} {lines : List (List Int)} : line.length = n → (∀ x ∈ line, Bd 13500 x) → fin.length = n → putF t 1000 (primF line) = some fin → putOk n k t 1000 (primF line) → PutRun n k (addT t fin) lines t' → PutRun n k t (line :: lines) t'
theorem addT_len (t : Tab) (fin : List Int) : (addT t fin).length ≤ t.length + 1 := by
  unfold addT
  split <;> simp
/-- a row, cleared by the lower ones -/
inductive RedRun (n k : Nat) : List (List Int) → List Int → List Int → Prop
  | nil (line : List Int) : RedRun n k [] line line
  | cons {low line fin : List Int} {lows : List (List Int)} {h : Nat} : headO low = some h → line.length = n → low.length = n → (∀ x ∈ line, Bd k x) → (∀ x ∈ low, Bd k x) → (∀ x ∈ rawF line low h, Bd 13500 x) → RedRun n k lows (clearF line low h) fin → RedRun n k (low :: lows) line fin
inductive FinRun (n k : Nat) (t : Tab) : List Nat → List (List Int) → List (List Int) → Prop
  | nil (found : List (List Int)) : FinRun n k t [] found found
  | cons {p : Nat} {ps : List Nat} {row fin : List Int} {found res : List (List Int)} : getT t p = some row → RedRun n k found row fin → FinRun n k t ps (found ++ [fin]) res → FinRun n k t (p :: ps) found res
def fn (xs : List Int) : Vec := fun j => xs[j]?.getD 0
theorem fn_map (f : Int → Int) (h0 : f 0 = 0) (xs : List Int) (j : Nat) : fn (xs.map f) j = f (fn xs j) := by
  unfold fn
  rw [List.getElem?_map]
  cases xs[j]? with
  | none => simp [h0]
  | some x => rfl
theorem fn_mem {xs : List Int} {j : Nat} (h : j < xs.length) : fn xs j ∈ xs := by
  unfold fn
  rw [List.getElem?_eq_getElem h, Option.getD_some]
  exact List.getElem_mem h
theorem fn_out {xs : List Int} {j : Nat} (h : xs.length ≤ j) : fn xs j = 0 := by
  unfold fn
  rw [List.getElem?_eq_none h]; rfl
theorem fn_zip (f : Int → Int → Int) (h0 : f 0 0 = 0) (xs ys : List Int) (hl : xs.length = ys.length) (j : Nat) : fn (List.zipWith f xs ys) j = f (fn xs j) (fn ys j) := by
  by_cases h : j < xs.length
  · unfold fn
    rw [List.getElem?_eq_getElem (by simp; omega), List.getElem?_eq_getElem h, List.getElem?_eq_getElem (by omega)]
    simp
  · rw [fn_out (xs := xs) (by omega), fn_out (xs := ys) (by omega), fn_out (by simp; omega), h0]
theorem fn_raw (xs ys : List Int) (p : Nat) (hl : xs.length = ys.length) (j : Nat) : fn (rawF xs ys p) j = fn ys p * fn xs j - fn xs p * fn ys j := by
  unfold rawF
  rw [fn_zip _ (by simp) xs ys hl]
  show fn xs j * fn ys p - fn ys j * fn xs p = _
  rw [Int.mul_comm (fn xs j), Int.mul_comm (fn ys j)]
theorem cont_dvd_fn (d : Int) (xs : List Int) : (d ∣ (cont xs : Int)) ↔ ∀ j, d ∣ fn xs j := by
  rw [cont_dvd]
  constructor
  · intro h j
    by_cases hj : j < xs.length
    · exact h _ (fn_mem hj)
    · rw [fn_out (by omega)]; exact Int.dvd_zero d
  · intro h x hx
    obtain ⟨i, hi, rfl⟩ := List.mem_iff_getElem.mp hx
    have := h i
    unfold fn at this
    rwa [List.getElem?_eq_getElem hi, Option.getD_some] at this
theorem primG_ne {xs : List Int} (h : cont xs ≠ 0) : primG xs ≠ 0 := by
  unfold primG
  split <;> omega
theorem primG_dvd (xs : List Int) (j : Nat) : primG xs ∣ fn xs j := by
  have := (cont_dvd_fn (cont xs : Int) xs).mp (Int.dvd_refl _) j
  unfold primG
  split
  · exact Int.neg_dvd.mpr this
  · exact this
theorem prim_len (xs : List Int) : (primF xs).length = xs.length := by
  unfold primF
  split <;> simp
theorem fn_prim {xs : List Int} (h : cont xs ≠ 0) (j : Nat) : fn xs j = primG xs * fn (primF xs) j := by
  unfold primF
  rw [if_neg h, fn_map _ (by simp), Int.mul_comm, Int.fdiv_mul_cancel (primG_dvd xs j)]
theorem prim_one {xs : List Int} (h : cont xs ≠ 0) (d : Int) (hd : ∀ j, d ∣ fn (primF xs) j) : d ∣ 1 := by
  have h1 : primG xs * d ∣ (cont xs : Int) := (cont_dvd_fn _ xs).mpr fun j => by
    rw [fn_prim h j]
    exact Int.mul_dvd_mul_left _ (hd j)
  have h2 : (cont xs : Int) ∣ primG xs := by
    unfold primG
    split
    · exact Int.dvd_neg.mpr (Int.dvd_refl _)
    · exact Int.dvd_refl _
  have h3 : primG xs * d ∣ primG xs * 1 := by rw [Int.mul_one]; exact Int.dvd_trans h1 h2
  exact Int.dvd_of_mul_dvd_mul_left (primG_ne h) h3
theorem head_fn {xs : List Int} {p : Nat} (h : headO xs = some p) : p < xs.length ∧ fn xs p ≠ 0 ∧ ∀ j, p < j → fn xs j = 0 := by
  obtain ⟨h1, h2, h3⟩ := hd_some h
  refine ⟨h1, h2, fun j hj => ?_⟩
  by_cases hl : j < xs.length
  · exact h3 j hj hl
  · exact fn_out (by omega)
theorem head_none {xs : List Int} (h : headO xs = none) (j : Nat) : fn xs j = 0 := by
  by_cases hl : j < xs.length
  · exact hd_none h j hl
  · exact fn_out (by omega)
theorem head_uniq {xs : List Int} {p : Nat} (h1 : fn xs p ≠ 0) (h2 : ∀ j, p < j → fn xs j = 0) : headO xs = some p := by
  cases e : headO xs with
  | none => exact absurd (head_none e p) h1
  | some q =>
    obtain ⟨a, b, c⟩ := head_fn e
    by_cases hlt : p < q
    · exact absurd (h2 q hlt) b
    · by_cases hgt : q < p
      · exact absurd (c p hgt) h1
      · rw [show q = p by omega]
theorem cont_ne {xs : List Int} {j : Nat} (h : fn xs j ≠ 0) : cont xs ≠ 0 := fun e => h (by
  have := (cont_dvd_fn 0 xs).mp (by rw [e]; simp) j
  exact Int.zero_dvd.mp this)
theorem lead_fn {xs : List Int} {p : Nat} (h : headO xs = some p) : lead xs = fn xs p := by
  unfold lead
  rw [h]
  rfl
theorem prim_head {xs : List Int} {p : Nat} (h : headO xs = some p) : headO (primF xs) = some p ∧ 0 < fn (primF xs) p := by
  obtain ⟨h1, h2, h3⟩ := head_fn h
  have hc := cont_ne h2
  have e := fn_prim hc
  have hg := primG_ne hc
  refine ⟨head_uniq (fun z => h2 (by rw [e p, z]; simp)) fun j hj => ?_, ?_⟩
  · have := h3 j hj
    rw [e j] at this
    rcases Int.mul_eq_zero.mp this with q | q
    · exact absurd q hg
    · exact q
  · have ep := e p
    have el := lead_fn h
    by_cases hn : fn xs p < 0
    · have g : primG xs = -(cont xs : Int) := by unfold primG; rw [el, if_pos hn]
      rw [g] at ep
      have c0 : 0 < (cont xs : Int) := by omega
      refine Classical.byContradiction fun hq => ?_
      have : 0 ≤ -(cont xs : Int) * fn (primF xs) p := Int.mul_nonneg_of_nonpos_of_nonpos (by omega) (by omega)
      omega
    · have g : primG xs = (cont xs : Int) := by unfold primG; rw [el, if_neg hn]
      rw [g] at ep
      refine Classical.byContradiction fun hq => ?_
      have : (cont xs : Int) * fn (primF xs) p ≤ 0 := Int.mul_nonpos_of_nonneg_of_nonpos (by omega) (by omega)
      omega
theorem prim_none {xs : List Int} (h : headO xs = none) : primF xs = xs := by
  unfold primF
  rw [if_pos]
  refine cont_zero.mpr fun x hx => ?_
  obtain ⟨i, hi, rfl⟩ := List.mem_iff_getElem.mp hx
  have := head_none h i
  unfold fn at this
  rwa [List.getElem?_eq_getElem hi, Option.getD_some] at this
/-- what is cleared at the head that both share lies lower -/
theorem clear_low {xs ys : List Int} {p q : Nat} (hl : xs.length = ys.length) (hx : headO xs = some p) (hy : headO ys = some p) (h : headO (clearF xs ys p) = some q) : q < p := by
  have hz : ∀ j, p ≤ j → fn (rawF xs ys p) j = 0 := fun j hj => by
    rw [fn_raw xs ys p hl]
    by_cases e : j = p
    · rw [e, Int.mul_comm]; omega
    · rw [(head_fn hx).2.2 j (by omega), (head_fn hy).2.2 j (by omega)]; simp
  refine Classical.byContradiction fun hq => ?_
  have h2 := (head_fn h).2.1
  cases er : headO (rawF xs ys p) with
  | none =>
    unfold clearF at h
    rw [prim_none er, er] at h
    cases h
  | some r =>
    have := (prim_head er).1
    unfold clearF at h
    rw [this] at h
    cases h
    exact (head_fn er).2.1 (hz _ (by omega))
theorem sp_prim {S : Vec → Prop} {xs : List Int} (h : Sp S (fn xs)) : Sp S (fn (primF xs)) := by
  by_cases hc : cont xs = 0
  · unfold primF
    rw [if_pos hc]
    exact h
  · refine Sp.part (primG_ne hc) ?_
    have e : (fun j => primG xs * fn (primF xs) j) = fn xs := by funext j; exact (fn_prim hc j).symm
    rw [e]; exact h
theorem sp_unprim {S : Vec → Prop} {xs : List Int} (h : Sp S (fn (primF xs))) : Sp S (fn xs) := by
  by_cases hc : cont xs = 0
  · unfold primF at h
    rw [if_pos hc] at h
    exact h
  · have e : fn xs = fun j => primG xs * fn (primF xs) j := by funext j; exact fn_prim hc j
    rw [e]
    exact .smul _ h
theorem sp_clear {S : Vec → Prop} {xs ys : List Int} {p : Nat} (hl : xs.length = ys.length) (hx : Sp S (fn xs)) (hy : Sp S (fn ys)) : Sp S (fn (clearF xs ys p)) := by
  refine sp_prim ?_
  have e : fn (rawF xs ys p) = fun j => fn ys p * fn xs j - fn xs p * fn ys j := by funext j; exact fn_raw xs ys p hl j
  rw [e]
  exact Sp.cross hx hy _ _
theorem sp_unclear {S : Vec → Prop} {xs ys : List Int} {p : Nat} (hl : xs.length = ys.length) (h0 : fn ys p ≠ 0) (hc : Sp S (fn (clearF xs ys p))) (hy : Sp S (fn ys)) : Sp S (fn xs) := by
  have h := sp_unprim hc
  refine Sp.part h0 ?_
  have e : (fun j => fn ys p * fn xs j) = fun j => fn (rawF xs ys p) j + fn xs p * fn ys j := by
    funext j
    rw [fn_raw xs ys p hl j]
    omega
  rw [e]
  exact Sp.add h (Sp.smul _ hy)
/-- the sizes of what cleared makes, before it is made primitive -/
theorem raw_bd {xs ys : List Int} {p k m : Nat} (hl : xs.length = ys.length) (hx : ∀ x ∈ xs, Bd k x) (hy : ∀ y ∈ ys, Bd m y) (hp : p < xs.length) : ∀ x ∈ rawF xs ys p, Bd (k + m + 1) x := by
  intro x h
  obtain ⟨i, hi, rfl⟩ := List.mem_iff_getElem.mp h
  rw [rawF_len xs ys p hl] at hi
  have e : (rawF xs ys p)[i]'(by rw [rawF_len xs ys p hl]; exact hi) = fn ys p * fn xs i - fn xs p * fn ys i := by
    rw [← fn_raw xs ys p hl i]
    unfold fn
    rw [List.getElem?_eq_getElem (by rw [rawF_len xs ys p hl]; exact hi), Option.getD_some]
  rw [e]
  have b1 := hx _ (fn_mem hi)
  have b2 := hx _ (fn_mem hp)
  have b3 := hy _ (fn_mem (xs := ys) (j := i) (by omega))
  have b4 := hy _ (fn_mem (xs := ys) (j := p) (by omega))
  exact ((b4.mul b1).mono (Nat.le_of_eq (Nat.add_comm m k))).sub (b2.mul b3) (by omega) (by omega)
def rowsUp (t : Tab) : Nat → Nat → List (Nat × Vec)
  | 0, _ => []
  | m + 1, p => match getT t p with
    | some row => (p, fn row) :: rowsUp t m (p + 1)
    | none => rowsUp t m (p + 1)
def linesUp (t : Tab) (gl : Nat → Vec) : Nat → Nat → List Vec
  | 0, _ => []
  | m + 1, p => match getT t p with
    | some _ => gl p :: linesUp t gl m (p + 1)
    | none => linesUp t gl m (p + 1)
theorem rowsUp_mem {t : Tab} : ∀ {m p : Nat} {a : Nat × Vec}, a ∈ rowsUp t m p ↔ p ≤ a.1 ∧ a.1 < p + m ∧ ∃ row, getT t a.1 = some row ∧ a.2 = fn row
  | 0, p, a => by simp [rowsUp]; omega
  | m + 1, p, a => by
    unfold rowsUp
    cases e : getT t p with
    | none =>
      simp only
      rw [rowsUp_mem (m := m) (p := p + 1)]
      constructor
      · rintro ⟨h1, h2, h3⟩; exact ⟨by omega, by omega, h3⟩
      · rintro ⟨h1, h2, row, h3, h4⟩
        have : a.1 ≠ p := fun q => by rw [q, e] at h3; cases h3
        exact ⟨by omega, by omega, row, h3, h4⟩
    | some row =>
      simp only [List.mem_cons]
      rw [rowsUp_mem (m := m) (p := p + 1)]
      constructor
      · rintro (rfl | ⟨h1, h2, h3⟩)
        · exact ⟨Nat.le_refl _, by omega, row, e, rfl⟩
        · exact ⟨by omega, by omega, h3⟩
      · rintro ⟨h1, h2, row', h3, h4⟩
        by_cases q : a.1 = p
        · left
          rw [q, e] at h3
          cases h3
          obtain ⟨a1, a2⟩ := a
          simp only at q h4
          rw [q, h4]
        · right
          exact ⟨by omega, by omega, row', h3, h4⟩
/-- the rows by their heads, each with the line that it came of -/
structure TabOk (n A : Nat) (t : Tab) (gl : Nat → Vec) : Prop where
  row : ∀ (p : Nat) (row : List Int), getT t p = some row → row.length = n ∧ headO row = some p ∧ ∀ d : Int, (∀ j, d ∣ fn row j) → d ∣ 1
  up : ∀ (p : Nat) (row : List Int), getT t p = some row → Sp (rowsOf (rowsUp t (n - p) p)) (gl p)
  dn : ∀ (p : Nat) (row : List Int), getT t p = some row → Sp (fun v => v = gl p ∨ rowsOf (rowsUp t (n - (p + 1)) (p + 1)) v) (fn row)
  bd : ∀ (p : Nat) (row : List Int), getT t p = some row → ∀ j, (gl p j).natAbs ≤ A
theorem TabOk.chain {n A : Nat} {t : Tab} {gl : Nat → Vec} (h : TabOk n A t gl) : ∀ (m p : Nat), p + m = n → Chain (rowsUp t m p) (linesUp t gl m p)
  | 0, p, _ => .nil
  | m + 1, p, hm => by
    have ih := h.chain m (p + 1) (by omega)
    unfold rowsUp linesUp
    cases e : getT t p with
    | none => exact ih
    | some row =>
      obtain ⟨h1, h2, h3⟩ := h.row p row e
      obtain ⟨q1, q2, q3⟩ := head_fn h2
      have u := h.up p row e
      have d := h.dn p row e
      rw [show n - p = m + 1 by omega] at u
      rw [show n - (p + 1) = m by omega] at d
      unfold rowsUp at u
      rw [e] at u
      refine Chain.cons ih q2 (fun b hb => ?_) u d
      have := rowsUp_mem.mp hb
      exact q3 b.1 (by omega)
theorem rowsUp_len (t : Tab) : ∀ m p, (rowsUp t m p).length ≤ m
  | 0, _ => Nat.le_refl _
  | m + 1, p => by
    unfold rowsUp
    have := rowsUp_len t m (p + 1)
    split
    · simp; omega
    · omega
theorem linesUp_mem {t : Tab} {gl : Nat → Vec} : ∀ {m p : Nat} {u : Vec}, u ∈ linesUp t gl m p → ∃ q row, getT t q = some row ∧ u = gl q
  | 0, p, u, h => by cases h
  | m + 1, p, u, h => by
    unfold linesUp at h
    cases e : getT t p with
    | none => rw [e] at h; exact linesUp_mem h
    | some row =>
      rw [e] at h
      rcases List.mem_cons.mp h with rfl | h
      · exact ⟨p, row, e, rfl⟩
      · exact linesUp_mem h
/-- the rows with heads from p on -/
def Up (n : Nat) (t : Tab) (p : Nat) : Vec → Prop := rowsOf (rowsUp t (n - p) p)
theorem Up_mem {n : Nat} {t : Tab} {p : Nat} {v : Vec} : Up n t p v ↔ ∃ q row, p ≤ q ∧ q < n ∧ getT t q = some row ∧ v = fn row := by
  constructor
  · rintro ⟨a, ha, rfl⟩
    obtain ⟨h1, h2, row, h3, h4⟩ := rowsUp_mem.mp ha
    exact ⟨a.1, row, h1, by omega, h3, h4⟩
  · rintro ⟨q, row, h1, h2, h3, rfl⟩
    exact ⟨(q, fn row), rowsUp_mem.mpr ⟨h1, by show q < p + (n - p); omega, row, h3, rfl⟩, rfl⟩
theorem Up_low {n : Nat} {t : Tab} {p q : Nat} (h : q ≤ p) {v : Vec} (hv : Up n t p v) : Up n t q v := by
  obtain ⟨a, row, h1, h2, h3, h4⟩ := Up_mem.mp hv
  exact Up_mem.mpr ⟨a, row, by omega, h2, h3, h4⟩
/-- what put_in has in hand, and the line it came of -/
structure Hand (n : Nat) (t : Tab) (L : Vec) (left : List Int) : Prop where
  len : left.length = n
  up : ∀ p, headO left = some p → Sp (fun v => v = fn left ∨ Up n t (p + 1) v) L
  dn : ∀ p, headO left = some p → Sp (fun v => v = L ∨ Up n t (p + 1) v) (fn left)
theorem Hand.step {n : Nat} {t : Tab} {L : Vec} {left row : List Int} {p : Nat} (h : Hand n t L left) (hp : headO left = some p) (hr : getT t p = some row) (rl : row.length = n) (rh : headO row = some p) : Hand n t L (clearF left row p) := by
  have hl : left.length = row.length := by rw [h.len, rl]
  have pn : p < n := by have := (head_fn hp).1; rw [h.len] at this; exact this
  have r0 := (head_fn rh).2.1
  refine ⟨by unfold clearF; rw [prim_len, rawF_len _ _ _ hl, h.len], fun q hq => ?_, fun q hq => ?_⟩
  · have lo := clear_low hl hp rh hq
    have ru : Up n t (q + 1) (fn row) := Up_mem.mpr ⟨p, row, by omega, pn, hr, rfl⟩
    refine Sp.trans (fun v hv => ?_) (h.up p hp)
    rcases hv with rfl | hv
    · exact sp_unclear hl r0 (.mem (.inl rfl)) (.mem (.inr ru))
    · exact .mem (.inr (Up_low (by omega) hv))
  · have lo := clear_low hl hp rh hq
    have ru : Up n t (q + 1) (fn row) := Up_mem.mpr ⟨p, row, by omega, pn, hr, rfl⟩
    refine sp_clear hl ?_ (.mem (.inr ru))
    refine Sp.trans (fun v hv => ?_) (h.dn p hp)
    rcases hv with rfl | hv
    · exact .mem (.inl rfl)
    · exact .mem (.inr (Up_low (by omega) hv))
theorem getT_add {t : Tab} {p : Nat} {row : List Int} (h : getT t p = none) (q : Nat) : getT (t ++ [(p, row)]) q = if q = p then some row else getT t q := by
  unfold getT at *
  rw [List.find?_append]
  by_cases e : q = p
  · subst e
    simp only [Option.map_eq_none_iff] at h
    rw [h]
    simp
  · have : ¬ p = q := fun z => e z.symm
    rw [if_neg e]
    cases t.find? fun e => decide (e.1 = q) with
    | none => simp [this]
    | some x => simp
theorem Up_add {n : Nat} {t : Tab} {p q : Nat} {row : List Int} (h : getT t p = none) {v : Vec} (hv : Up n t q v) : Up n (t ++ [(p, row)]) q v := by
  obtain ⟨a, r, h1, h2, h3, h4⟩ := Up_mem.mp hv
  refine Up_mem.mpr ⟨a, r, h1, h2, ?_, h4⟩
  rw [getT_add h, if_neg (fun e => by rw [e, h] at h3; cases h3)]
  exact h3
theorem TabOk.add {n A : Nat} {t : Tab} {gl : Nat → Vec} (h : TabOk n A t gl) {L : Vec} {left : List Int} (hd : Hand n t L left) {p : Nat} (hp : headO left = some p) (hn : getT t p = none) (hprim : ∀ d : Int, (∀ j, d ∣ fn left j) → d ∣ 1) (hL : ∀ j, (L j).natAbs ≤ A) :
    TabOk n A (t ++ [(p, left)]) (fun q => if q = p then L else gl q) := by
  have pn : p < n := by have := (head_fn hp).1; rw [hd.len] at this; exact this
  have me : Up n (t ++ [(p, left)]) p (fn left) := Up_mem.mpr ⟨p, left, Nat.le_refl _, pn, by rw [getT_add hn, if_pos rfl], rfl⟩
  refine ⟨fun q row e => ?_, fun q row e => ?_, fun q row e => ?_, fun q row e => ?_⟩ <;> rw [getT_add hn] at e <;> by_cases hq : q = p
  · rw [if_pos hq] at e; cases e; subst hq; exact ⟨hd.len, hp, hprim⟩
  · rw [if_neg hq] at e; exact h.row q row e
  · subst hq
    simp only [if_true]
    refine Sp.trans (fun v hv => ?_) (hd.up q hp)
    rcases hv with rfl | hv
    · exact .mem me
    · exact .mem (Up_low (by omega) (Up_add hn hv))
  · rw [if_neg hq] at e
    simp only [if_neg hq]
    exact Sp.trans (fun v hv => .mem (Up_add hn hv)) (h.up q row e)
  · rw [if_pos hq] at e; cases e
    subst hq
    simp only [if_true]
    refine Sp.trans (fun v hv => ?_) (hd.dn q hp)
    rcases hv with rfl | hv
    · exact .mem (.inl rfl)
    · exact .mem (.inr (Up_add hn hv))
  · rw [if_neg hq] at e
    simp only [if_neg hq]
    refine Sp.trans (fun v hv => ?_) (h.dn q row e)
    rcases hv with rfl | hv
    · exact .mem (.inl rfl)
    · exact .mem (.inr (Up_add hn hv))
  · simp only [if_pos hq]; exact hL
  · rw [if_neg hq] at e
    simp only [if_neg hq]; exact h.bd q row e
theorem prim_of_head {xs : List Int} {p : Nat} (h : headO (primF xs) = some p) : headO xs = some p ∧ ∀ d : Int, (∀ j, d ∣ fn (primF xs) j) → d ∣ 1 := by
  cases e : headO xs with
  | none => rw [prim_none e, e] at h; cases h
  | some q =>
    have := (prim_head e).1
    rw [this] at h
    cases h
    exact ⟨rfl, prim_one (cont_ne (head_fn e).2.1)⟩
theorem all_bd {xs : List Int} {k N : Nat} (h : ∀ j, (fn xs j).natAbs ≤ N) (hN : N < 2 ^ k) : ∀ x ∈ xs, Bd k x := by
  intro x hx
  obtain ⟨i, hi, rfl⟩ := List.mem_iff_getElem.mp hx
  have := h i
  unfold fn at this
  rw [List.getElem?_eq_getElem hi, Option.getD_some] at this
  exact Nat.lt_of_le_of_lt this hN
theorem none_bd {xs : List Int} (k : Nat) (h : headO xs = none) : ∀ x ∈ xs, Bd k x := by
  intro x hx
  obtain ⟨i, hi, rfl⟩ := List.mem_iff_getElem.mp hx
  have := head_none h i
  unfold fn at this
  rw [List.getElem?_eq_getElem hi, Option.getD_some] at this
  rw [this]; exact .zero
/-- all rows -/
def Rows (t : Tab) : Vec → Prop := fun v => ∃ q row, getT t q = some row ∧ v = fn row
theorem Up_rows {n : Nat} {t : Tab} {p : Nat} {v : Vec} (h : Up n t p v) : Rows t v := by
  obtain ⟨q, row, _, _, h3, h4⟩ := Up_mem.mp h
  exact ⟨q, row, h3, h4⟩
theorem hand_start {n : Nat} (t : Tab) (line : List Int) (hl : line.length = n) : Hand n t (fn line) (primF line) := by
  refine ⟨by rw [prim_len, hl], fun p _ => sp_unprim (.mem (.inl rfl)), fun p _ => sp_prim (.mem (.inl rfl))⟩
theorem addT_some {t : Tab} {fin : List Int} {p : Nat} (h : headO fin = some p) : addT t fin = t ++ [(p, fin)] := by unfold addT; rw [h]
theorem addT_none {t : Tab} {fin : List Int} (h : headO fin = none) : addT t fin = t := by unfold addT; rw [h]
/-- all lines go in; the rows and the lines have one span -/
theorem putF_span {n A : Nat} {t : Tab} {gl : Nat → Vec} (h : TabOk n A t gl) : ∀ (f : Nat) (left fin : List Int), left.length = n → putF t f left = some fin → Sp (fun v => v = fn fin ∨ Rows t v) (fn left) ∧ Sp (fun v => v = fn left ∨ Rows t v) (fn fin)
  | 0, _, _, _, e => by cases e
  | f + 1, left, fin, hl, e => by
    unfold putF at e
    cases ep : headO left with
    | none =>
      rw [ep] at e
      cases e
      exact ⟨.mem (.inl rfl), .mem (.inl rfl)⟩
    | some p =>
      rw [ep] at e
      cases er : getT t p with
      | none =>
        simp only [er] at e
        cases e
        exact ⟨.mem (.inl rfl), .mem (.inl rfl)⟩
      | some row =>
        simp only [er] at e
        obtain ⟨r1, r2, _⟩ := h.row p row er
        have hlr : left.length = row.length := by rw [hl, r1]
        have rr : Rows t (fn row) := ⟨p, row, er, rfl⟩
        obtain ⟨s1, s2⟩ := putF_span h f (clearF left row p) fin (by unfold clearF; rw [prim_len, rawF_len _ _ _ hlr, hl]) e
        refine ⟨sp_unclear hlr (head_fn r2).2.1 s1 (.mem (.inr rr)), Sp.trans (fun v hv => ?_) s2⟩
        rcases hv with rfl | hv
        · exact sp_clear hlr (.mem (.inl rfl)) (.mem (.inr rr))
        · exact .mem (.inr hv)
theorem zero_sp {S : Vec → Prop} {xs : List Int} (h : headO xs = none) : Sp S (fn xs) := by
  have e : fn xs = fun _ => 0 := by funext j; exact head_none h j
  rw [e]; exact .zero
/-! ### how many rows stand from a head on -/
theorem countP_split (p : Nat) : ∀ l : List Nat, l.countP (fun q => decide (p ≤ q)) = l.countP (fun q => decide (p + 1 ≤ q)) + l.count p
  | [] => rfl
  | x :: l => by
    have ih := countP_split p l
    rw [List.countP_cons, List.countP_cons, List.count_cons, ih]
    by_cases h1 : p = x
    · subst h1
      have : ¬ (p + 1 ≤ p) := by omega
      simp [this]
      omega
    · have h2 : ¬ x = p := fun e => h1 e.symm
      by_cases h3 : p ≤ x
      · have : p + 1 ≤ x := by omega
        simp [h3, this, h2]
        omega
      · have : ¬ (p + 1 ≤ x) := by omega
        simp [h3, this, h2]
theorem rowsUp_cnt {t : Tab} {ks : List Nat} (hk : ∀ q row, getT t q = some row → q ∈ ks) : ∀ m p, (rowsUp t m p).length ≤ ks.countP (fun q => decide (p ≤ q))
  | 0, _ => Nat.zero_le _
  | m + 1, p => by
    have ih := rowsUp_cnt hk m (p + 1)
    have s := countP_split p ks
    unfold rowsUp
    cases e : getT t p with
    | none => simp only; omega
    | some row =>
      have := List.count_pos_iff.mpr (hk p row e)
      simp only [List.length_cons]; omega
/-- the size of a small vector of m lines -/
def sb (m A : Nat) : Nat := m * ((2 * (m * A) + 1) ^ (m - 1) * A)
theorem sb_mono {k m A : Nat} (h : k ≤ m) (h1 : 1 ≤ k) : sb k A ≤ sb m A := by
  unfold sb
  have h1 : k * A ≤ m * A := Nat.mul_le_mul_right _ h
  have h2 : (2 * (k * A) + 1) ^ (k - 1) ≤ (2 * (m * A) + 1) ^ (m - 1) :=
    Nat.le_trans (Nat.pow_le_pow_left (by omega) _) (Nat.pow_le_pow_right (by omega) (by omega))
  exact Nat.mul_le_mul h (Nat.mul_le_mul_right _ h2)
theorem sb_bits {m a A : Nat} (hm : m ≤ 16) (h1 : 1 ≤ m) (hA : A ≤ 2 ^ a) : sb m A < 2 ^ (m * (a + 6)) := by
  unfold sb
  have p0 := Nat.two_pow_pos a
  have e1 : m * A ≤ 16 * 2 ^ a := Nat.mul_le_mul hm hA
  have e6 : 2 ^ (a + 6) = 64 * 2 ^ a := by rw [Nat.pow_add, Nat.mul_comm]
  have e2 : 2 * (m * A) + 1 ≤ 2 ^ (a + 6) := by omega
  have e3 : (2 * (m * A) + 1) ^ (m - 1) ≤ 2 ^ ((a + 6) * (m - 1)) := by rw [Nat.pow_mul]; exact Nat.pow_le_pow_left e2 _
  have e4 : m * ((2 * (m * A) + 1) ^ (m - 1) * A) ≤ 16 * (2 ^ ((a + 6) * (m - 1)) * 2 ^ a) := Nat.mul_le_mul hm (Nat.mul_le_mul e3 hA)
  have e5 : m * (a + 6) = (a + 6) * (m - 1) + a + 6 := by
    obtain ⟨k, rfl⟩ : ∃ k, m = k + 1 := ⟨m - 1, by omega⟩
    rw [Nat.add_sub_cancel, Nat.mul_comm, Nat.mul_succ]; omega
  rw [e5, Nat.pow_add, Nat.pow_add]
  have p1 := Nat.mul_pos (Nat.two_pow_pos ((a + 6) * (m - 1))) p0
  omega
theorem TabOk.row_sb {n A : Nat} {t : Tab} {gl : Nat → Vec} (h : TabOk n A t gl) {p : Nat} {row : List Int} (e : getT t p = some row) {ks : List Nat} (hk : ∀ q row, getT t q = some row → q ∈ ks) {m : Nat} (hm : ks.countP (fun q => decide (p ≤ q)) ≤ m) : ∀ j, (fn row j).natAbs ≤ sb m A := by
  obtain ⟨h1, h2, h3⟩ := h.row p row e
  obtain ⟨q1, q2, q3⟩ := head_fn h2
  obtain ⟨m', hm'⟩ : ∃ m, p + (m + 1) = n := ⟨n - p - 1, by omega⟩
  have c := h.chain (m' + 1) p hm'
  have l := rowsUp_cnt hk (m' + 1) p
  have er : rowsUp t (m' + 1) p = (p, fn row) :: rowsUp t m' (p + 1) := by
    show (match getT t p with | some row => (p, fn row) :: rowsUp t m' (p + 1) | none => rowsUp t m' (p + 1)) = _
    rw [e]
  rw [er] at c l
  intro j
  have s := Chain.small c A (fun u hu c => by
    obtain ⟨q, r, a, b⟩ := linesUp_mem hu
    rw [b]; exact h.bd q r a c) h3 (fun b hb => q3 b.1 (by have := rowsUp_mem.mp hb; omega)) j
  rw [List.length_cons] at l
  have := sb_mono (A := A) (show (rowsUp t m' (p + 1)).length + 1 ≤ m by omega) (by omega)
  unfold sb at this
  rw [Nat.add_sub_cancel] at this
  exact Nat.le_trans s this
theorem Hand.sb {n A : Nat} {t : Tab} {gl : Nat → Vec} (h : TabOk n A t gl) {L : Vec} {left : List Int} (hd : Hand n t L left) {p : Nat} (hp : headO left = some p) (hprim : ∀ d : Int, (∀ j, d ∣ fn left j) → d ∣ 1) (hL : ∀ j, (L j).natAbs ≤ A) {ks : List Nat} (hk : ∀ q row, getT t q = some row → q ∈ ks) {m : Nat} (hm : ks.countP (fun q => decide (p + 1 ≤ q)) + 1 ≤ m) : ∀ j, (fn left j).natAbs ≤ sb m A := by
  obtain ⟨q1, q2, q3⟩ := head_fn hp
  rw [hd.len] at q1
  have c := h.chain (n - (p + 1)) (p + 1) (by omega)
  have z : ∀ b ∈ rowsUp t (n - (p + 1)) (p + 1), fn left b.1 = 0 := fun b hb => q3 b.1 (by have := rowsUp_mem.mp hb; omega)
  have u : Sp (rowsOf ((p, fn left) :: rowsUp t (n - (p + 1)) (p + 1))) L := Sp.trans (fun v hv => by
    rcases hv with rfl | ⟨b, hb, e⟩
    · exact .mem ⟨(p, fn left), List.mem_cons_self, rfl⟩
    · exact .mem ⟨b, List.mem_cons_of_mem _ hb, e⟩) (hd.up p hp)
  have cc : Chain ((p, fn left) :: rowsUp t (n - (p + 1)) (p + 1)) (L :: linesUp t gl (n - (p + 1)) (p + 1)) := Chain.cons c q2 z u (hd.dn p hp)
  intro j
  have s := Chain.small cc A (fun v hv c => by
    rcases List.mem_cons.mp hv with rfl | hv
    · exact hL c
    · obtain ⟨q, r, a, b⟩ := linesUp_mem hv
      rw [b]; exact h.bd q r a c) hprim z j
  have l := rowsUp_cnt hk (n - (p + 1)) (p + 1)
  have := sb_mono (A := A) (show (rowsUp t (n - (p + 1)) (p + 1)).length + 1 ≤ m by omega) (by omega)
  unfold EN.sb at this ⊢
  rw [Nat.add_sub_cancel] at this
  exact Nat.le_trans s this
theorem put_exists2 {n A k R : Nat} {t : Tab} {gl : Nat → Vec} (h : TabOk n A t gl) {L : Vec} (hL : ∀ j, (L j).natAbs ≤ A) {ks : List Nat} (hks : ∀ q row, getT t q = some row → q ∈ ks) (H1 : ∀ p, p < n → ks.countP (fun q => decide (p ≤ q)) ≤ R) (H2 : ∀ p, p < n → ks.countP (fun q => decide (p + 1 ≤ q)) + 1 ≤ R)
    (hk : sb R A < 2 ^ k) (hk2 : k + k + 1 ≤ 13500) : ∀ (f : Nat) (left : List Int), Hand n t L left → (∀ p, headO left = some p → p + 2 ≤ f ∧ ∀ d : Int, (∀ j, d ∣ fn left j) → d ∣ 1) → 1 ≤ f →
    ∃ fin, putF t f left = some fin ∧ putOk n k t f left ∧ Hand n t L fin ∧ ∀ p, headO fin = some p → ∀ d : Int, (∀ j, d ∣ fn fin j) → d ∣ 1
  | 0, _, _, _, hf => absurd hf (by decide)
  | f + 1, left, hd, hp, _ => by
    unfold putF putOk
    cases e : headO left with
    | none => exact ⟨left, rfl, ⟨hd.len, none_bd k e, trivial⟩, hd, fun p q => by rw [e] at q; cases q⟩
    | some p =>
      obtain ⟨p1, p2⟩ := hp p e
      have pn : p < n := by have := (head_fn e).1; rw [hd.len] at this; exact this
      have sm := all_bd (Hand.sb h hd e p2 hL hks (H2 p pn)) hk
      cases er : getT t p with
      | none => exact ⟨left, by simp only [er], ⟨hd.len, sm, by simp only [er]⟩, hd, fun q hq => by rw [e] at hq; cases hq; exact p2⟩
      | some row =>
        obtain ⟨r1, r2, r3⟩ := h.row p row er
        have hl : left.length = row.length := by rw [hd.len, r1]
        have rb := all_bd (h.row_sb er hks (H1 p pn)) hk
        have rr := raw_bd hl sm rb (head_fn e).1
        obtain ⟨fin, q1, q2, q3, q4⟩ := put_exists2 h hL hks H1 H2 hk hk2 f (clearF left row p) (hd.step e er r1 r2) (fun q hq => by
          have := clear_low hl e r2 hq
          exact ⟨by omega, (prim_of_head hq).2⟩) (by omega)
        exact ⟨fin, by simp only [er]; exact q1, ⟨hd.len, sm, by simp only [er]; exact ⟨r1, rb, fun x hx => (rr x hx).mono hk2, q2⟩⟩, q3, q4⟩
theorem getT_mem {t : Tab} {q : Nat} {row : List Int} (h : getT t q = some row) : q ∈ t.map (·.1) := by
  unfold getT at h
  cases e : t.find? (fun e => decide (e.1 = q)) with
  | none => rw [e] at h; cases h
  | some x =>
    have h1 := List.find?_some e
    have h2 := List.mem_of_find?_eq_some e
    simp at h1
    exact List.mem_map.mpr ⟨x, h2, h1⟩
theorem mem_getT {t : Tab} {q : Nat} (h : q ∈ t.map (·.1)) : ∃ row, getT t q = some row := by
  obtain ⟨x, hx, rfl⟩ := List.mem_map.mp h
  unfold getT
  cases e : t.find? (fun e => decide (e.1 = x.1)) with
  | none =>
    have := List.find?_eq_none.mp e x hx
    simp at this
  | some y => exact ⟨_, rfl⟩
theorem countP_range (p : Nat) : ∀ n, (List.range n).countP (fun q => decide (p ≤ q)) = n - p
  | 0 => by simp
  | n + 1 => by
    rw [List.range_succ, List.countP_append, countP_range p n, List.countP_singleton]
    by_cases h : p ≤ n
    · simp [h]; omega
    · simp [h]; omega
structure Sizes (n A k R : Nat) : Prop where
  hn : n ≤ 500
  hk : sb R A < 2 ^ k
  hk2 : k + k + 1 ≤ 13500
theorem put_all2 {n A k R : Nat} (z : Sizes n A k R) : ∀ (lines : List (List Int)) (t : Tab) (gl : Nat → Vec), TabOk n A t gl → (t.map (·.1)).Nodup → (∀ l ∈ lines, l.length = n ∧ (∀ j, (fn l j).natAbs ≤ A) ∧ ∀ x ∈ l, Bd 13500 x) → (n ≤ R ∨ t.length + lines.length ≤ R) →
    ∃ t' gl', PutRun n k t lines t' ∧ TabOk n A t' gl' ∧ (t'.map (·.1)).Nodup ∧ (∀ v, Rows t v → Rows t' v) ∧ (∀ l ∈ lines, Sp (Rows t') (fn l)) ∧ (∀ v, Rows t' v → Sp (fun v => Rows t v ∨ ∃ l ∈ lines, v = fn l) v) ∧ t'.length ≤ t.length + lines.length
  | [], t, gl, h, hn, _, _ => ⟨t, gl, .nil t, h, hn, fun v hv => hv, fun l hl => (by cases hl), fun v hv => .mem (.inl hv), Nat.le_refl _⟩
  | l :: lines, t, gl, h, hn, hl, hR => by
    obtain ⟨l1, l2, l3⟩ := hl l List.mem_cons_self
    have pe : ∃ fin, putF t 1000 (primF l) = some fin ∧ putOk n k t 1000 (primF l) ∧ Hand n t (fn l) fin ∧ ∀ p, headO fin = some p → ∀ d : Int, (∀ j, d ∣ fn fin j) → d ∣ 1 := by
      have hs := hand_start t l l1
      have hp : ∀ p, headO (primF l) = some p → p + 2 ≤ 1000 ∧ ∀ d : Int, (∀ j, d ∣ fn (primF l) j) → d ∣ 1 := fun p hp => by
        have := (head_fn hp).1
        rw [prim_len, l1] at this
        have := z.hn
        exact ⟨by omega, (prim_of_head hp).2⟩
      rcases hR with hR | hR
      · refine put_exists2 h l2 (ks := List.range n) (R := R) (fun q row e => ?_) (fun p hp => ?_) (fun p hp => ?_) z.hk z.hk2 1000 _ hs hp (by decide)
        · obtain ⟨r1, r2, _⟩ := h.row q row e
          have := (head_fn r2).1
          rw [r1] at this
          exact List.mem_range.mpr this
        · rw [countP_range]; omega
        · rw [countP_range]; omega
      · rw [List.length_cons] at hR
        have cl : ∀ p, (t.map (·.1)).countP (fun q => decide (p ≤ q)) ≤ t.length := fun p => by
          have := List.countP_le_length (p := fun q => decide (p ≤ q)) (l := t.map (·.1))
          rwa [List.length_map] at this
        refine put_exists2 h l2 (ks := t.map (·.1)) (R := R) (fun q row e => getT_mem e) (fun p hp => ?_) (fun p hp => ?_) z.hk z.hk2 1000 _ hs hp (by decide)
        · have := cl p; omega
        · have := cl (p + 1); omega
    obtain ⟨fin, q1, q2, q3, q4⟩ := pe
    have hfree := putF_free q1
    obtain ⟨s1, s2⟩ := putF_span h 1000 (primF l) fin (by rw [prim_len, l1]) q1
    have step : ∃ gl2, TabOk n A (addT t fin) gl2 ∧ ((addT t fin).map (·.1)).Nodup ∧ (∀ v, Rows t v → Rows (addT t fin) v) ∧ Sp (Rows (addT t fin)) (fn fin) ∧ ∀ v, Rows (addT t fin) v → v = fn fin ∨ Rows t v := by
      cases e : headO fin with
      | none => rw [addT_none e]; exact ⟨gl, h, hn, fun v hv => hv, zero_sp e, fun v hv => .inr hv⟩
      | some p =>
        rw [addT_some e]
        refine ⟨_, h.add q3 e (hfree p e) (q4 p e) l2, ?_, fun v ⟨q, row, a, b⟩ => ⟨q, row, ?_, b⟩, .mem ⟨p, fin, ?_, rfl⟩, fun v ⟨q, row, a, b⟩ => ?_⟩
        · rw [List.map_append, List.nodup_append]
          refine ⟨hn, by simp, fun a ha b hb => ?_⟩
          simp at hb
          subst hb
          intro e2
          subst e2
          obtain ⟨row, er⟩ := mem_getT ha
          rw [hfree a e] at er
          cases er
        · rw [getT_add (hfree p e), if_neg (fun e2 => by rw [e2, hfree p e] at a; cases a)]
          exact a
        · rw [getT_add (hfree p e), if_pos rfl]
        · rw [getT_add (hfree p e)] at a
          by_cases e2 : q = p
          · rw [if_pos e2] at a; cases a; exact .inl b
          · rw [if_neg e2] at a; exact .inr ⟨q, row, a, b⟩
    obtain ⟨gl2, h2, n2, m2, f2, i2⟩ := step
    have len := addT_len t fin
    obtain ⟨t', gl', r1, r2, r3, r4, r5, r6, r7⟩ := put_all2 z lines (addT t fin) gl2 h2 n2 (fun x hx => hl x (List.mem_cons_of_mem _ hx)) (by rw [List.length_cons] at hR; omega)
    refine ⟨t', gl', .cons l1 l3 q3.len q1 q2 r1, r2, r3, fun v hv => r4 v (m2 v hv), fun x hx => ?_, fun v hv => ?_, by rw [List.length_cons]; omega⟩
    · rcases List.mem_cons.mp hx with rfl | hx
      · refine sp_unprim (Sp.trans (fun v hv => ?_) s1)
        rcases hv with rfl | hv
        · exact Sp.trans (fun w hw => .mem (r4 w hw)) f2
        · exact .mem (r4 v (m2 v hv))
      · exact r5 x hx
    · refine Sp.trans (fun w hw => ?_) (r6 v hv)
      rcases hw with hw | ⟨x, hx, rfl⟩
      · rcases i2 w hw with rfl | hw
        · refine Sp.trans (fun u hu => ?_) s2
          rcases hu with rfl | hu
          · exact sp_prim (.mem (.inr ⟨l, List.mem_cons_self, rfl⟩))
          · exact .mem (.inl hu)
        · exact .mem (.inl hw)
      · exact .mem (.inr ⟨x, List.mem_cons_of_mem _ hx, rfl⟩)
/-! ### settled lists -/
/-- rows with their heads, rising, each of them 0 at the other heads -/
structure St (n : Nat) (F : List (Nat × List Int)) : Prop where
  ord : F.Pairwise fun a b => a.1 < b.1
  len : ∀ a ∈ F, a.2.length = n
  head : ∀ a ∈ F, headO a.2 = some a.1
  pos : ∀ a ∈ F, 0 < fn a.2 a.1
  prim : ∀ a ∈ F, ∀ d : Int, (∀ j, d ∣ fn a.2 j) → d ∣ 1
  off : ∀ a ∈ F, ∀ b ∈ F, a.1 ≠ b.1 → fn a.2 b.1 = 0
abbrev vecs (F : List (Nat × List Int)) : List (Nat × Vec) := F.map fun a => (a.1, fn a.2)
def SpF (F : List (Nat × List Int)) : Vec → Prop := Sp (rowsOf (vecs F))
theorem rowsOf_vecs {F : List (Nat × List Int)} {v : Vec} : rowsOf (vecs F) v ↔ ∃ a ∈ F, v = fn a.2 := by
  constructor
  · rintro ⟨b, hb, rfl⟩
    obtain ⟨a, ha, rfl⟩ := List.mem_map.mp hb
    exact ⟨a, ha, rfl⟩
  · rintro ⟨a, ha, rfl⟩
    exact ⟨_, List.mem_map.mpr ⟨a, ha, rfl⟩, rfl⟩
theorem St.tri {n : Nat} {F : List (Nat × List Int)} (h : St n F) : Tri (vecs F) := by
  refine ⟨?_, fun a ha => ?_⟩
  · rw [List.pairwise_map]
    refine List.Pairwise.imp_of_mem (fun {a b} ha hb hab => ?_) h.ord
    exact h.off b hb a ha (by omega)
  · obtain ⟨b, hb, rfl⟩ := List.mem_map.mp ha
    have := h.pos b hb
    show fn b.2 b.1 ≠ 0
    omega
theorem St.uniq {n : Nat} {F : List (Nat × List Int)} (h : St n F) {a b : Nat × List Int} (ha : a ∈ F) (hb : b ∈ F) (e : a.1 = b.1) : a = b := by
  have := h.ord
  revert ha hb
  clear h
  induction F with
  | nil => intro ha; cases ha
  | cons c F ih =>
    intro ha hb
    obtain ⟨p1, p2⟩ := List.pairwise_cons.mp this
    rcases List.mem_cons.mp ha with h1 | h1
    · rcases List.mem_cons.mp hb with h2 | h2
      · rw [h1, h2]
      · have := p1 b h2; rw [h1] at e; omega
    · rcases List.mem_cons.mp hb with h2 | h2
      · have := p1 a h1; rw [h2] at e; omega
      · exact ih p2 h1 h2
/-- the product of the numbers at the heads -/
def headP (F : List (Nat × List Int)) : Int := (F.map fun a => fn a.2 a.1).foldl (· * ·) 1
theorem foldl_mul (xs : List Int) : ∀ c : Int, xs.foldl (· * ·) c = c * xs.foldl (· * ·) 1 := by
  induction xs with
  | nil => intro c; simp
  | cons x xs ih => intro c; rw [List.foldl_cons, ih, List.foldl_cons, ih (1 * x)]; rw [Int.one_mul, Int.mul_assoc]
theorem foldl_pos (xs : List Int) (h : ∀ x ∈ xs, 0 < x) : 0 < xs.foldl (· * ·) 1 := by
  induction xs with
  | nil => decide
  | cons x xs ih =>
    rw [List.foldl_cons, foldl_mul, Int.one_mul]
    exact Int.mul_pos (h x List.mem_cons_self) (ih fun y hy => h y (List.mem_cons_of_mem _ hy))
theorem foldl_dvd (xs : List Int) : ∀ x ∈ xs, x ∣ xs.foldl (· * ·) 1 := by
  induction xs with
  | nil => intro x h; cases h
  | cons y xs ih =>
    intro x h
    rw [List.foldl_cons, foldl_mul, Int.one_mul]
    rcases List.mem_cons.mp h with rfl | h
    · exact Int.dvd_mul_right _ _
    · exact Int.dvd_trans (ih x h) (Int.dvd_mul_left _ _)
theorem headP_pos {n : Nat} {F : List (Nat × List Int)} (h : St n F) : 0 < headP F := foldl_pos _ fun x hx => by
  obtain ⟨a, ha, rfl⟩ := List.mem_map.mp hx
  exact h.pos a ha
theorem headP_dvd {F : List (Nat × List Int)} {a : Nat × List Int} (ha : a ∈ F) : fn a.2 a.1 ∣ headP F := foldl_dvd _ _ (List.mem_map.mpr ⟨a, ha, rfl⟩)
/-- crosswise, by the numbers at the heads -/
def mix (P : Int) (F : List (Nat × List Int)) (y : Vec) : Vec := fun j => (F.map fun a => y a.1 * (P / fn a.2 a.1) * fn a.2 j).sum
theorem mix_cons (P : Int) (a : Nat × List Int) (F : List (Nat × List Int)) (y : Vec) (j : Nat) : mix P (a :: F) y j = y a.1 * (P / fn a.2 a.1) * fn a.2 j + mix P F y j := by
  unfold mix; rw [List.map_cons, List.sum_cons]
theorem mix_zero (P : Int) (F : List (Nat × List Int)) (j : Nat) : mix P F (fun _ => 0) j = 0 := by
  induction F with
  | nil => rfl
  | cons a F ih => rw [mix_cons, ih]; simp
theorem mix_add (P : Int) (F : List (Nat × List Int)) (u v : Vec) (j : Nat) : mix P F (fun j => u j + v j) j = mix P F u j + mix P F v j := by
  induction F with
  | nil => rfl
  | cons a F ih => rw [mix_cons, mix_cons, mix_cons, ih, Int.add_mul, Int.add_mul]; omega
theorem mix_smul (P : Int) (F : List (Nat × List Int)) (c : Int) (u : Vec) (j : Nat) : mix P F (fun j => c * u j) j = c * mix P F u j := by
  induction F with
  | nil => simp [mix]
  | cons a F ih => rw [mix_cons, mix_cons, ih, Int.mul_add, Int.mul_assoc c, Int.mul_assoc c]
theorem mix_off (P : Int) : ∀ (F : List (Nat × List Int)) (y : Vec) (j : Nat), (∀ a ∈ F, y a.1 * fn a.2 j = 0) → mix P F y j = 0
  | [], _, _, _ => rfl
  | a :: F, y, j, h => by
    rw [mix_cons, mix_off P F y j fun b hb => h b (List.mem_cons_of_mem _ hb)]
    have := h a List.mem_cons_self
    rcases Int.mul_eq_zero.mp this with e | e <;> rw [e] <;> simp
theorem mix_one (P : Int) : ∀ (F : List (Nat × List Int)), (F.Pairwise fun a b => a.1 < b.1) → ∀ (y : Vec) (j : Nat) (b : Nat × List Int), b ∈ F → (∀ a ∈ F, a.1 ≠ b.1 → y a.1 * fn a.2 j = 0) → mix P F y j = y b.1 * (P / fn b.2 b.1) * fn b.2 j
  | [], _, _, _, _, hb, _ => by cases hb
  | a :: F, ho, y, j, b, hb, h => by
    obtain ⟨p1, p2⟩ := List.pairwise_cons.mp ho
    rw [mix_cons]
    rcases List.mem_cons.mp hb with rfl | hb
    · rw [mix_off P F y j fun c hc => h c (List.mem_cons_of_mem _ hc) (by have := p1 c hc; omega)]
      omega
    · rw [mix_one P F p2 y j b hb fun c hc => h c (List.mem_cons_of_mem _ hc)]
      have := h a List.mem_cons_self (by have := p1 b hb; omega)
      rcases Int.mul_eq_zero.mp this with e | e <;> rw [e] <;> simp
theorem mix_row {n : Nat} {F : List (Nat × List Int)} (h : St n F) {P : Int} (hP : ∀ a ∈ F, fn a.2 a.1 ∣ P) {b : Nat × List Int} (hb : b ∈ F) (j : Nat) : mix P F (fn b.2) j = P * fn b.2 j := by
  rw [mix_one P F h.ord (fn b.2) j b hb fun a ha e => by rw [h.off b hb a ha (fun q => e q.symm)]; simp]
  rw [Int.mul_ediv_cancel' (hP b hb)]
/-- what is made: crosswise it comes to the line -/
theorem St.formula {n : Nat} {F : List (Nat × List Int)} (h : St n F) {P : Int} (hP : ∀ a ∈ F, fn a.2 a.1 ∣ P) {y : Vec} (hy : SpF F y) : ∀ j, mix P F y j = P * y j := by
  have k := Sp.kills (fun y => fun j => mix P F y j - P * y j) (by funext j; simp only []; rw [mix_zero]; simp) (fun u v => by
      funext j; simp only []; rw [mix_add, Int.mul_add]; omega) (fun c u => by
      funext j; simp only []; rw [mix_smul, Int.mul_sub, Int.mul_left_comm]) (fun u hu => by
      obtain ⟨a, ha, rfl⟩ := rowsOf_vecs.mp hu
      funext j
      show mix P F (fn a.2) j - P * fn a.2 j = 0
      rw [mix_row h hP ha]; omega) hy
  intro j
  have e : mix P F y j - P * y j = 0 := congrFun k j
  omega
theorem sp_mix (P : Int) (S : Vec → Prop) : ∀ (F : List (Nat × List Int)) (y : Vec), (∀ a ∈ F, Sp S (fn a.2)) → Sp S (mix P F y)
  | [], y, _ => by
    have e : mix P [] y = fun _ => 0 := by funext j; rfl
    rw [e]; exact .zero
  | a :: F, y, h => by
    have e : mix P (a :: F) y = fun j => (y a.1 * (P / fn a.2 a.1)) * fn a.2 j + mix P F y j := by funext j; exact mix_cons P a F y j
    rw [e]
    exact .add (.smul _ (h a List.mem_cons_self)) (sp_mix P S F y fun b hb => h b (List.mem_cons_of_mem _ hb))
theorem formula_sp {F : List (Nat × List Int)} {P : Int} (h0 : P ≠ 0) {y : Vec} (h : ∀ j, mix P F y j = P * y j) : SpF F y := by
  refine Sp.part h0 ?_
  have e : (fun j => P * y j) = mix P F y := by funext j; exact (h j).symm
  rw [e]
  exact sp_mix P _ F y fun a ha => .mem (rowsOf_vecs.mpr ⟨a, ha, rfl⟩)
/-- the head of what is made is a head -/
theorem St.head_in {n : Nat} {F : List (Nat × List Int)} (h : St n F) {y : Vec} (hy : SpF F y) {p : Nat} (h0 : y p ≠ 0) (h1 : ∀ j, p < j → y j = 0) : ∃ a ∈ F, a.1 = p := by
  refine Classical.byContradiction fun hn => h0 ?_
  have hd : ∀ a ∈ F, fn a.2 a.1 ∣ headP F := fun a ha => headP_dvd ha
  have e := h.formula hd hy p
  rw [mix_off _ F y p fun a ha => ?_] at e
  · have := headP_pos h
    rcases Int.mul_eq_zero.mp e.symm with q | q
    · omega
    · exact q
  · by_cases hlt : p < a.1
    · rw [h1 a.1 hlt]; simp
    · have hne : a.1 ≠ p := fun q => hn ⟨a, ha, q⟩
      rw [(head_fn (h.head a ha)).2.2 p (by omega)]; simp
theorem sorted_ext {α : Type} : ∀ {F G : List (Nat × α)}, (F.Pairwise fun a b => a.1 < b.1) → (G.Pairwise fun a b => a.1 < b.1) → (∀ a, a ∈ F ↔ a ∈ G) → F = G
  | [], [], _, _, _ => rfl
  | [], b :: G, _, _, h => by have := (h b).mpr List.mem_cons_self; cases this
  | a :: F, [], _, _, h => by have := (h a).mp List.mem_cons_self; cases this
  | a :: F, b :: G, hF, hG, h => by
    obtain ⟨p1, p2⟩ := List.pairwise_cons.mp hF
    obtain ⟨q1, q2⟩ := List.pairwise_cons.mp hG
    have e : a = b := by
      rcases List.mem_cons.mp ((h a).mp List.mem_cons_self) with e | e
      · exact e
      · rcases List.mem_cons.mp ((h b).mpr List.mem_cons_self) with e2 | e2
        · exact e2.symm
        · have := p1 b e2; have := q1 a e; omega
    subst e
    rw [sorted_ext p2 q2 fun c => ?_]
    constructor
    · intro hc
      rcases List.mem_cons.mp ((h c).mp (List.mem_cons_of_mem _ hc)) with e | e
      · subst e; have := p1 c hc; omega
      · exact e
    · intro hc
      rcases List.mem_cons.mp ((h c).mpr (List.mem_cons_of_mem _ hc)) with e | e
      · subst e; have := q1 c hc; omega
      · exact e
theorem fn_ext {xs ys : List Int} (hl : xs.length = ys.length) (h : ∀ j, fn xs j = fn ys j) : xs = ys := by
  apply List.ext_getElem hl
  intro i h1 h2
  have := h i
  unfold fn at this
  rwa [List.getElem?_eq_getElem h1, List.getElem?_eq_getElem h2] at this
/-- of one span there is one settled list -/
theorem St.one {n : Nat} {F G : List (Nat × List Int)} (hF : St n F) (hG : St n G) (h1 : ∀ a ∈ F, SpF G (fn a.2)) (h2 : ∀ a ∈ G, SpF F (fn a.2)) : F = G := by
  have sub : ∀ {F G : List (Nat × List Int)}, St n F → St n G → (∀ a ∈ F, SpF G (fn a.2)) → (∀ a ∈ G, SpF F (fn a.2)) → ∀ a ∈ F, a ∈ G := by
    intro F G hF hG h1 h2 a ha
    have hh : ∀ c ∈ F, ∃ b ∈ G, b.1 = c.1 := fun c hc => by
      obtain ⟨q1, q2, q3⟩ := head_fn (hF.head c hc)
      exact hG.head_in (h1 c hc) q2 q3
    have hh2 : ∀ c ∈ G, ∃ b ∈ F, b.1 = c.1 := fun c hc => by
      obtain ⟨q1, q2, q3⟩ := head_fn (hG.head c hc)
      exact hF.head_in (h2 c hc) q2 q3
    obtain ⟨b, hb, e⟩ := hh a ha
    have zb : SpF G (fn b.2) := .mem (rowsOf_vecs.mpr ⟨b, hb, rfl⟩)
    have par := hG.tri.par (h1 a ha) zb a.1 (fun c hc hn => by
      obtain ⟨c', hc', rfl⟩ := List.mem_map.mp hc
      obtain ⟨c2, hc2, e2⟩ := hh2 c' hc'
      simp only at hn ⊢
      rw [← e2]
      exact hF.off a ha c2 hc2 (by omega)) (fun c hc hn => by
      obtain ⟨c', hc', rfl⟩ := List.mem_map.mp hc
      exact hG.off b hb c' hc' (by simp only at hn; omega))
    have pa := hF.pos a ha
    have pb := hG.pos b hb
    rw [e] at pb
    have l1 := prim_least (h := a.1) (hF.prim a ha) (by omega) par a.1
    have l2 := prim_least (h := a.1) (hG.prim b hb) (by omega) (fun j => (par j).symm) a.1
    have ep : fn a.2 a.1 = fn b.2 a.1 := by omega
    have : a.2 = b.2 := fn_ext (by rw [hF.len a ha, hG.len b hb]) fun j => by
      have := par j
      rw [ep] at this
      exact Int.eq_of_mul_eq_mul_left (by omega) this
    have : a = b := Prod.ext e.symm this
    rw [this]; exact hb
  exact sorted_ext hF.ord hG.ord fun a => ⟨fun h => sub hF hG h1 h2 a h, fun h => sub hG hF h2 h1 a h⟩
theorem prim_zero {xs : List Int} {j : Nat} (h : fn xs j = 0) : fn (primF xs) j = 0 := by
  by_cases hc : cont xs = 0
  · unfold primF
    rw [if_pos hc]
    exact h
  · have e := fn_prim hc j
    rw [h] at e
    rcases Int.mul_eq_zero.mp e.symm with q | q
    · exact absurd q (primG_ne hc)
    · exact q
theorem natAbs_le_mul (a b : Int) (h : a ≠ 0) : b.natAbs ≤ (a * b).natAbs := by
  rw [Int.natAbs_mul]
  exact Nat.le_mul_of_pos_left _ (by omega)
theorem prim_bd {xs : List Int} {k : Nat} (h : ∀ x ∈ xs, Bd k x) : ∀ x ∈ primF xs, Bd k x := by
  intro x hx
  obtain ⟨i, hi, rfl⟩ := List.mem_iff_getElem.mp hx
  rw [prim_len] at hi
  have b := h _ (fn_mem hi)
  have e : (primF xs)[i]'(by rw [prim_len]; exact hi) = fn (primF xs) i := by
    unfold fn
    rw [List.getElem?_eq_getElem (by rw [prim_len]; exact hi), Option.getD_some]
  rw [e]
  by_cases hc : cont xs = 0
  · unfold primF
    rw [if_pos hc]
    exact b
  · rw [fn_prim hc i] at b
    exact Nat.lt_of_le_of_lt (natAbs_le_mul _ _ (primG_ne hc)) b
structure Sizes2 (n A a R : Nat) : Prop where
  hn : n ≤ 500
  hA : A ≤ 2 ^ a
  hR : R ≤ 16
  hz : ∀ m k : Nat, 1 ≤ m → m + k ≤ R → m * (a + 6) + k * (R * (a + 6) + 1) ≤ 13499
theorem fn_bd {xs : List Int} {k : Nat} (h : ∀ x ∈ xs, Bd k x) (j : Nat) : Bd k (fn xs j) := by
  by_cases hj : j < xs.length
  · exact h _ (fn_mem hj)
  · rw [fn_out (by omega)]; exact .zero
/-- a row on its way through the lower ones -/
structure Lin (n : Nat) (t : Tab) (p : Nat) (row : List Int) (F D : List (Nat × List Int)) (line : List Int) : Prop where
  len : line.length = n
  head : headO line = some p
  pos : 0 < fn line p
  prim : ∀ d : Int, (∀ j, d ∣ fn line j) → d ∣ 1
  sp : Sp (Rows t) (fn line)
  back : Sp (fun v => v = fn line ∨ rowsOf (vecs F) v) (fn row)
  zeros : ∀ a ∈ D, fn line a.1 = 0
theorem red_exists {n : Nat} {t : Tab} {p : Nat} {row : List Int} {F : List (Nat × List Int)} (hF : St n F) (hsp : ∀ a ∈ F, Sp (Rows t) (fn a.2)) {kf : Nat} (hb : ∀ a ∈ F, ∀ x ∈ a.2, Bd kf x) (hp : ∀ a ∈ F, a.1 < p) : ∀ (lows D : List (Nat × List Int)) (line : List Int) (e : Nat), D ++ lows = F → Lin n t p row F D line → (∀ x ∈ line, Bd e x) → e + lows.length * (kf + 1) ≤ 13499 →
    ∃ fin, RedRun n 13500 (lows.map (·.2)) line fin ∧ Lin n t p row F F fin
  | [], D, line, e, hD, h, _, _ => ⟨line, .nil _, by rw [List.append_nil] at hD; rw [hD] at h; exact h⟩
  | low :: lows, D, line, e, hD, h, he, hz => by
    have hlow : low ∈ F := by rw [← hD]; simp
    have hl : line.length = low.2.length := by rw [h.len, hF.len _ hlow]
    have hh := hF.head _ hlow
    obtain ⟨h1, h2, h3⟩ := head_fn hh
    have plow := hp _ hlow
    rw [List.length_cons, Nat.succ_mul] at hz
    have hkf : kf ≤ 13500 := by omega
    have rb := raw_bd (p := low.1) hl he (hb _ hlow) (by omega)
    have rawp : fn (rawF line low.2 low.1) p ≠ 0 := by
      rw [fn_raw _ _ _ hl, h3 p plow, Int.mul_zero, Int.sub_zero]
      exact Int.mul_ne_zero h2 (by have := h.pos; omega)
    have rawo : ∀ j, p < j → fn (rawF line low.2 low.1) j = 0 := fun j hj => by
      rw [fn_raw _ _ _ hl, h3 j (by omega), (head_fn h.head).2.2 j hj]; simp
    have rh := head_uniq rawp rawo
    obtain ⟨c1, c2⟩ := prim_head rh
    have lin : Lin n t p row F (D ++ [low]) (clearF line low.2 low.1) := by
      refine ⟨by unfold clearF; rw [prim_len, rawF_len _ _ _ hl, h.len], c1, c2, (prim_of_head c1).2, sp_clear hl h.sp (hsp _ hlow), ?_, fun a ha => ?_⟩
      · refine Sp.trans (fun v hv => ?_) h.back
        rcases hv with rfl | hv
        · exact sp_unclear hl h2 (.mem (.inl rfl)) (.mem (.inr (rowsOf_vecs.mpr ⟨low, hlow, rfl⟩)))
        · exact .mem (.inr hv)
      · refine prim_zero ?_
        rw [fn_raw _ _ _ hl]
        rcases List.mem_append.mp ha with ha | ha
        · have ne : low.1 ≠ a.1 := by
            have o := hF.ord
            rw [← hD] at o
            have := (List.pairwise_append.mp o).2.2 a ha low List.mem_cons_self
            omega
          have ha' : a ∈ F := by rw [← hD]; simp [ha]
          rw [h.zeros a ha, hF.off _ hlow a ha' ne]; simp
        · rw [List.mem_singleton] at ha
          subst ha
          rw [Int.mul_comm]; omega
    obtain ⟨fin, q1, q2⟩ := red_exists hF hsp hb hp lows (D ++ [low]) (clearF line low.2 low.1) (e + kf + 1) (by rw [← hD]; simp) lin (prim_bd rb) (by omega)
    exact ⟨fin, .cons hh h.len (hF.len _ hlow) (fun x hx => (he x hx).mono (by omega)) (fun x hx => (hb _ hlow x hx).mono hkf) (fun x hx => (rb x hx).mono (by omega)) q1, q2⟩
theorem rowsUp_all {n A : Nat} {t : Tab} {gl : Nat → Vec} (h : TabOk n A t gl) : rowsOf (rowsUp t n 0) = Rows t := by
  funext v
  apply propext
  constructor
  · rintro ⟨a, ha, rfl⟩
    obtain ⟨h1, h2, row, h3, h4⟩ := rowsUp_mem.mp ha
    exact ⟨a.1, row, h3, h4⟩
  · rintro ⟨q, row, h1, rfl⟩
    obtain ⟨r1, r2, _⟩ := h.row q row h1
    have := (head_fn r2).1
    rw [r1] at this
    exact ⟨(q, fn row), rowsUp_mem.mpr ⟨Nat.zero_le _, by show q < 0 + n; omega, row, h1, rfl⟩, rfl⟩
/-- of all rows' span, 0 at all heads but one, primitive: small -/
theorem full_small {n A R : Nat} {t : Tab} {gl : Nat → Vec} (h : TabOk n A t gl) {all : List Nat} (hall : ∀ q, (∃ row, getT t q = some row) ↔ q ∈ all) (hR : all.length ≤ R) {p : Nat} (hp : p ∈ all) {y : Vec} (hy : Sp (Rows t) y) (hprim : ∀ d : Int, (∀ j, d ∣ y j) → d ∣ 1) (hz : ∀ q ∈ all, q ≠ p → y q = 0) : ∀ j, (y j).natAbs ≤ sb R A := by
  have c := h.chain n 0 (by omega)
  have t1 := c.tri
  have er : rowsOf (rowsUp t n 0).reverse = Rows t := by
    rw [← rowsUp_all h]
    exact rowsOf_perm fun x => List.mem_reverse
  have hl := c.len
  have hin : ∀ a ∈ rowsUp t n 0, a.1 ∈ all := fun a ha => by
    obtain ⟨_, _, row, h3, _⟩ := rowsUp_mem.mp ha
    exact (hall _).mp ⟨row, h3⟩
  have cn := rowsUp_cnt (t := t) (ks := all) (fun q row e => (hall q).mp ⟨row, e⟩) n 0
  have c2 := List.countP_le_length (p := fun q => decide (0 ≤ q)) (l := all)
  have pin : p ∈ (rowsUp t n 0).map (·.1) := by
    obtain ⟨row, e⟩ := (hall p).mpr hp
    obtain ⟨r1, r2, _⟩ := h.row p row e
    have := (head_fn r2).1
    rw [r1] at this
    exact List.mem_map.mpr ⟨(p, fn row), rowsUp_mem.mpr ⟨Nat.zero_le _, by show p < 0 + n; omega, row, e, rfl⟩, rfl⟩
  have lt : (((rowsUp t n 0).map (·.1)).filter fun q => decide (q ≠ p)).length < (rowsUp t n 0).length := by
    have := List.length_filter_lt_length_iff_exists (p := fun q => decide (q ≠ p)) (l := (rowsUp t n 0).map (·.1))
    rw [List.length_map] at this
    exact this.mpr ⟨p, pin, by simp⟩
  obtain ⟨z, z1, z2, z3, z4⟩ := FL.small t1 (us := linesUp t gl n 0) (fun u hu => by
    rw [rowsOf_perm (G := rowsUp t n 0) fun x => List.mem_reverse]
    exact c.ins u hu) c.indep A (fun u hu c => by
      obtain ⟨q, r, a, b⟩ := linesUp_mem hu
      rw [b]; exact h.bd q r a c) p (((rowsUp t n 0).map (·.1)).filter fun q => decide (q ≠ p)) (fun a ha hn => by
      rw [List.mem_filter]
      exact ⟨List.mem_map.mpr ⟨a, List.mem_reverse.mp ha, rfl⟩, by simpa using hn⟩) (by rw [hl]; exact lt)
  rw [er] at z1
  have par := t1.par (y := y) (z := z) (by rw [er]; exact hy) (by rw [er]; exact z1) p (fun a ha hn => hz _ (hin a (List.mem_reverse.mp ha)) hn) z2
  intro j
  have l1 := prim_least hprim z3 par j
  have l2 := z4 j
  rw [hl] at l2
  obtain ⟨m, em⟩ : ∃ m, m = (rowsUp t n 0).length := ⟨_, rfl⟩
  rw [← em] at l2 lt cn
  obtain ⟨c', ec⟩ : ∃ c, c = (((rowsUp t n 0).map (·.1)).filter fun q => decide (q ≠ p)).length := ⟨_, rfl⟩
  rw [← ec] at l2 lt
  have l3 : m * ((2 * (m * A) + 1) ^ c' * A) ≤ sb m A := by
    unfold sb
    exact Nat.mul_le_mul_left _ (Nat.mul_le_mul_right _ (Nat.pow_le_pow_right (by omega) (by omega)))
  have l4 := sb_mono (A := A) (show m ≤ R by omega) (by omega)
  omega
theorem fin_exists {n A a R : Nat} {t : Tab} {gl : Nat → Vec} (h : TabOk n A t gl) (hpos : ∀ p row, getT t p = some row → 0 < fn row p) (z : Sizes2 n A a R) {all : List Nat} (hall : ∀ q, (∃ row, getT t q = some row) ↔ q ∈ all) (hR : all.length ≤ R) (hord : all.Pairwise (· < ·)) :
    ∀ (ps : List Nat) (F0 : List (Nat × List Int)), F0.map (·.1) ++ ps = all → St n F0 → (∀ a ∈ F0, Sp (Rows t) (fn a.2)) → (∀ b ∈ F0, ∀ x ∈ b.2, Bd (R * (a + 6)) x) → (∀ p row, getT t p = some row → p ∈ F0.map (·.1) → SpF F0 (fn row)) →
    ∃ F, FinRun n 13500 t ps (F0.map (·.2)) (F.map (·.2)) ∧ F.map (·.1) = all ∧ St n F ∧ (∀ a ∈ F, Sp (Rows t) (fn a.2)) ∧ (∀ b ∈ F, ∀ x ∈ b.2, Bd (R * (a + 6)) x) ∧ (∀ p row, getT t p = some row → SpF F (fn row))
  | [], F0, e, hF, h1, h2, h3 => ⟨F0, .nil _, by rw [List.append_nil] at e; exact e, hF, h1, h2, fun p row er => h3 p row er (by rw [List.append_nil] at e; rw [e]; exact (hall p).mp ⟨row, er⟩)⟩
  | p :: ps, F0, e, hF, h1, h2, h3 => by
    have pin : p ∈ all := by rw [← e]; simp
    obtain ⟨row, er⟩ := (hall p).mpr pin
    obtain ⟨r1, r2, r3⟩ := h.row p row er
    have hlt : ∀ b ∈ F0, b.1 < p := fun b hb => by
      rw [← e] at hord
      exact (List.pairwise_append.mp hord).2.2 b.1 (List.mem_map.mpr ⟨b, hb, rfl⟩) p List.mem_cons_self
    -- the row's own size
    have cnt : all.countP (fun q => decide (p ≤ q)) ≤ ps.length + 1 := by
      rw [← e, List.countP_append]
      have a0 : (F0.map (·.1)).countP (fun q => decide (p ≤ q)) = 0 := by
        rw [List.countP_eq_zero]
        intro q hq
        obtain ⟨b, hb, rfl⟩ := List.mem_map.mp hq
        have := hlt b hb
        simp; omega
      have a1 := List.countP_le_length (p := fun q => decide (p ≤ q)) (l := p :: ps)
      rw [List.length_cons] at a1
      omega
    have la : F0.length + (ps.length + 1) = all.length := by rw [← e]; simp
    have rs := h.row_sb er (ks := all) (fun q row e => (hall q).mp ⟨row, e⟩) cnt
    have rb : ∀ x ∈ row, Bd ((ps.length + 1) * (a + 6)) x := all_bd rs (sb_bits (by have := z.hR; omega) (by omega) z.hA)
    have zz := z.hz (ps.length + 1) F0.length (by omega) (by omega)
    have lin0 : Lin n t p row F0 [] row := ⟨r1, r2, hpos p row er, r3, .mem ⟨p, row, er, rfl⟩, .mem (.inl rfl), fun a ha => by cases ha⟩
    obtain ⟨fin, q1, q2⟩ := red_exists hF h1 h2 hlt F0 [] row _ rfl lin0 rb (by omega)
    have fz : ∀ q ∈ all, q ≠ p → fn fin q = 0 := fun q hq hne => by
      rw [← e] at hq
      rcases List.mem_append.mp hq with hq | hq
      · obtain ⟨b, hb, rfl⟩ := List.mem_map.mp hq
        exact q2.zeros b hb
      · rcases List.mem_cons.mp hq with rfl | hq
        · exact absurd rfl hne
        · refine (head_fn q2.head).2.2 q ?_
          rw [← e] at hord
          exact (List.pairwise_cons.mp (List.pairwise_append.mp hord).2.1).1 q hq
    have fb : ∀ x ∈ fin, Bd (R * (a + 6)) x := all_bd (full_small h hall hR pin q2.sp q2.prim fz) (sb_bits z.hR (by omega) z.hA)
    have hF' : St n (F0 ++ [(p, fin)]) := by
      refine ⟨List.pairwise_append.mpr ⟨hF.ord, List.pairwise_singleton _ _, fun b hb c hc => ?_⟩, fun b hb => ?_, fun b hb => ?_, fun b hb => ?_, fun b hb => ?_, fun b hb c hc => ?_⟩
      · rw [List.mem_singleton] at hc; subst hc; exact hlt b hb
      · rcases List.mem_append.mp hb with hb | hb
        · exact hF.len b hb
        · rw [List.mem_singleton] at hb; subst hb; exact q2.len
      · rcases List.mem_append.mp hb with hb | hb
        · exact hF.head b hb
        · rw [List.mem_singleton] at hb; subst hb; exact q2.head
      · rcases List.mem_append.mp hb with hb | hb
        · exact hF.pos b hb
        · rw [List.mem_singleton] at hb; subst hb; exact q2.pos
      · rcases List.mem_append.mp hb with hb | hb
        · exact hF.prim b hb
        · rw [List.mem_singleton] at hb; subst hb; exact q2.prim
      · intro ne
        rcases List.mem_append.mp hb with hb | hb
        · rcases List.mem_append.mp hc with hc | hc
          · exact hF.off b hb c hc ne
          · rw [List.mem_singleton] at hc; subst hc
            exact (head_fn (hF.head b hb)).2.2 p (hlt b hb)
        · rw [List.mem_singleton] at hb; subst hb
          rcases List.mem_append.mp hc with hc | hc
          · exact q2.zeros c hc
          · rw [List.mem_singleton] at hc; subst hc; exact absurd rfl ne
    have sub : ∀ v, rowsOf (vecs F0) v → rowsOf (vecs (F0 ++ [(p, fin)])) v := fun v hv => by
      obtain ⟨b, hb, rfl⟩ := rowsOf_vecs.mp hv
      exact rowsOf_vecs.mpr ⟨b, List.mem_append_left _ hb, rfl⟩
    obtain ⟨F, w1, w2, w3, w4, w5, w6⟩ := fin_exists h hpos z hall hR hord ps (F0 ++ [(p, fin)]) (by rw [← e]; simp) hF' (fun b hb => by
      rcases List.mem_append.mp hb with hb | hb
      · exact h1 b hb
      · rw [List.mem_singleton] at hb; subst hb; exact q2.sp) (fun b hb => by
      rcases List.mem_append.mp hb with hb | hb
      · exact h2 b hb
      · rw [List.mem_singleton] at hb; subst hb; exact fb) (fun q row' er' hq => by
      rw [List.map_append] at hq
      rcases List.mem_append.mp hq with hq | hq
      · exact Sp.trans (fun v hv => .mem (sub v hv)) (h3 q row' er' hq)
      · rw [show q = p by simpa using hq, er] at er'
        cases er'
        refine Sp.trans (fun v hv => ?_) q2.back
        rcases hv with rfl | hv
        · exact .mem (rowsOf_vecs.mpr ⟨(p, fin), by simp, rfl⟩)
        · exact .mem (sub v hv))
    refine ⟨F, .cons er q1 ?_, w2, w3, w4, w5, w6⟩
    have : (F0 ++ [(p, fin)]).map (·.2) = F0.map (·.2) ++ [fin] := by simp
    rw [← this]
    exact w1
theorem ins_ex (x : Nat) : ∀ s : List Nat, s.Pairwise (· < ·) → x ∉ s → ∃ s' : List Nat, s'.Pairwise (· < ·) ∧ s'.Perm (x :: s)
  | [], _, _ => ⟨[x], by simp, .refl _⟩
  | y :: s, h, hx => by
    obtain ⟨h1, h2⟩ := List.pairwise_cons.mp h
    by_cases hlt : x < y
    · refine ⟨x :: y :: s, .cons (fun z hz => ?_) h, .refl _⟩
      rcases List.mem_cons.mp hz with rfl | hz
      · exact hlt
      · have := h1 z hz; omega
    · obtain ⟨s', q1, q2⟩ := ins_ex x s h2 (fun e => hx (List.mem_cons_of_mem _ e))
      have hne : x ≠ y := fun e => hx (by rw [e]; exact List.mem_cons_self)
      refine ⟨y :: s', .cons (fun z hz => ?_) q1, (q2.cons y).trans (.swap _ _ _)⟩
      rcases List.mem_cons.mp (q2.mem_iff.mp hz) with rfl | hz
      · omega
      · exact h1 z hz
theorem sort_ex : ∀ l : List Nat, l.Nodup → ∃ s : List Nat, s.Pairwise (· < ·) ∧ s.Perm l
  | [], _ => ⟨[], .nil, .refl _⟩
  | x :: l, h => by
    obtain ⟨h1, h2⟩ := List.nodup_cons.mp h
    obtain ⟨s, q1, q2⟩ := sort_ex l h2
    obtain ⟨s', r1, r2⟩ := ins_ex x s q1 fun e => h1 (q2.mem_iff.mp e)
    exact ⟨s', r1, r2.trans (q2.cons x)⟩
theorem inc_len : ∀ (s : List Nat) (m n : Nat), s.Pairwise (· < ·) → (∀ x ∈ s, m ≤ x ∧ x < n) → s.length ≤ n - m
  | [], _, _, _, _ => Nat.zero_le _
  | x :: s, m, n, h, hb => by
    obtain ⟨h1, h2⟩ := List.pairwise_cons.mp h
    have := inc_len s (x + 1) n h2 fun y hy => ⟨h1 y hy, (hb y (List.mem_cons_of_mem _ hy)).2⟩
    have b := hb x List.mem_cons_self
    rw [List.length_cons]
    omega
theorem putF_pos {t : Tab} : ∀ (f : Nat) (left fin : List Int), (∃ x, left = primF x) → putF t f left = some fin → ∃ x, fin = primF x
  | 0, _, _, _, e => by cases e
  | f + 1, left, fin, hx, e => by
    unfold putF at e
    cases ep : headO left with
    | none => rw [ep] at e; cases e; exact hx
    | some p =>
      rw [ep] at e
      cases er : getT t p with
      | none => simp only [er] at e; cases e; exact hx
      | some row => simp only [er] at e; exact putF_pos f _ fin ⟨_, rfl⟩ e
theorem putrun_pos {n k : Nat} {t t' : Tab} {lines : List (List Int)} (h : PutRun n k t lines t') : (∀ p row, getT t p = some row → 0 < fn row p) → ∀ p row, getT t' p = some row → 0 < fn row p := by
  induction h with
  | nil t => exact fun h => h
  | @cons t t' line fin lines _ _ _ e _ _ ih =>
    intro h
    refine ih fun p row er => ?_
    cases eh : headO fin with
    | none => rw [addT_none eh] at er; exact h p row er
    | some q =>
      rw [addT_some eh, getT_add (putF_free e q eh)] at er
      by_cases hq : p = q
      · rw [if_pos hq] at er
        cases er
        obtain ⟨x, rfl⟩ := putF_pos 1000 _ _ ⟨_, rfl⟩ e
        rw [hq]
        exact (prim_head (prim_of_head eh).1).2
      · rw [if_neg hq] at er; exact h p row er
abbrev Lns (lines : List (List Int)) : Vec → Prop := fun v => ∃ l ∈ lines, v = fn l
/-- what settled makes of lines -/
structure Made (n e : Nat) (lines : List (List Int)) (F : List (Nat × List Int)) : Prop where
  st : St n F
  ins : ∀ l ∈ lines, SpF F (fn l)
  out : ∀ a ∈ F, Sp (Lns lines) (fn a.2)
  le : F.length ≤ lines.length
  bd : ∀ b ∈ F, ∀ x ∈ b.2, Bd e x
theorem St.lt {n : Nat} {F : List (Nat × List Int)} (h : St n F) {a : Nat × List Int} (ha : a ∈ F) : a.1 < n := by
  have := (head_fn (h.head a ha)).1
  rwa [h.len a ha] at this
theorem St.le {n : Nat} {F : List (Nat × List Int)} (h : St n F) : F.length ≤ n := by
  have := inc_len (F.map (·.1)) 0 n (List.pairwise_map.mpr h.ord) fun x hx => by
    obtain ⟨a, ha, rfl⟩ := List.mem_map.mp hx
    exact ⟨Nat.zero_le _, h.lt ha⟩
  simpa using this
theorem settled_exists {n A a k R : Nat} (z : Sizes n A k R) (z2 : Sizes2 n A a R) (lines : List (List Int)) (hl : ∀ l ∈ lines, l.length = n ∧ (∀ j, (fn l j).natAbs ≤ A) ∧ ∀ x ∈ l, Bd 13500 x) (hR : n ≤ R ∨ lines.length ≤ R) :
    ∃ t ps F, PutRun n k [] lines t ∧ ps.Pairwise (· < ·) ∧ ps.Perm (t.map (·.1)) ∧ FinRun n 13500 t ps [] (F.map (·.2)) ∧ Made n (R * (a + 6)) lines F := by
  have h0 : TabOk n A [] (fun _ _ => 0) := ⟨nofun, nofun, nofun, nofun⟩
  obtain ⟨t, gl, p1, p2, p3, p4, p5, p6, p7⟩ := put_all2 z lines [] _ h0 (by simp) hl (by simpa using hR)
  have hpos := putrun_pos p1 (fun p row e => by cases e)
  obtain ⟨ps, s1, s2⟩ := sort_ex _ p3
  have hall : ∀ q, (∃ row, getT t q = some row) ↔ q ∈ ps := fun q => by
    rw [s2.mem_iff]
    exact ⟨fun ⟨row, e⟩ => getT_mem e, fun h => mem_getT h⟩
  have ln : ps.length ≤ n := by
    have := inc_len ps 0 n s1 fun x hx => by
      obtain ⟨row, e⟩ := (hall x).mpr hx
      obtain ⟨r1, r2, _⟩ := p2.row x row e
      have := (head_fn r2).1
      omega
    omega
  have lt : ps.length ≤ lines.length := by
    rw [s2.length_eq, List.length_map]
    simpa using p7
  obtain ⟨F, w1, w2, w3, w4, w5, w6⟩ := fin_exists p2 hpos z2 hall (by omega) s1 ps [] rfl ⟨.nil, nofun, nofun, nofun, nofun, nofun⟩ (fun a h => by cases h) (fun a h => by cases h) (fun p row e h => by cases h)
  refine ⟨t, ps, F, p1, s1, s2, w1, w3, fun l hl => ?_, fun b hb => ?_, ?_, w5⟩
  · exact Sp.trans (fun v ⟨q, row, er, e⟩ => by rw [e]; exact w6 q row er) (p5 l hl)
  · refine Sp.trans (fun v hv => ?_) (w4 b hb)
    refine Sp.trans (fun u hu => ?_) (p6 v hv)
    rcases hu with ⟨q, row, er, _⟩ | hu
    · cases er
    · exact .mem hu
  · have := congrArg List.length w2
    rw [List.length_map] at this
    omega
theorem Made.one {n e e' : Nat} {ls ls' : List (List Int)} {F F' : List (Nat × List Int)} (h : Made n e ls F) (h' : Made n e' ls' F') (h1 : ∀ l ∈ ls, Sp (Lns ls') (fn l)) (h2 : ∀ l ∈ ls', Sp (Lns ls) (fn l)) : F = F' := by
  refine h.st.one h'.st (fun a ha => ?_) fun a ha => ?_
  · refine Sp.trans (fun v ⟨l, hl, e⟩ => ?_) (h.out a ha)
    rw [e]
    exact Sp.trans (fun w ⟨l', hl', e'⟩ => by rw [e']; exact h'.ins l' hl') (h1 l hl)
  · refine Sp.trans (fun v ⟨l, hl, e⟩ => ?_) (h'.out a ha)
    rw [e]
    exact Sp.trans (fun w ⟨l', hl', e'⟩ => by rw [e']; exact h.ins l' hl') (h2 l hl)
/-! ### how many lines are free of one another -/
theorem triIndep : ∀ {F : List (Nat × Vec)}, Tri F → Indep (F.map (·.2))
  | [], _ => trivial
  | a :: F, t => by
    refine ⟨fun h => ?_, triIndep (t.sub (List.sublist_cons_self a F))⟩
    refine Tri.free (F1 := []) t (Sp.trans (fun v hv => ?_) h)
    obtain ⟨b, hb, rfl⟩ := List.mem_map.mp hv
    exact .mem ⟨b, hb, rfl⟩
theorem dim_le {F : List (Nat × Vec)} (t : Tri F) {us : List Vec} (hi : Indep us) (hu : ∀ u ∈ us, Sp (rowsOf F) u) : us.length ≤ F.length := by
  refine Classical.byContradiction fun hn => ?_
  obtain ⟨xs, hl, ⟨x, hx, hx0⟩, hz⟩ : ∃ xs : List Int, xs.length = us.length ∧ (∃ x ∈ xs, x ≠ 0) ∧ ∀ a ∈ F, FL.comb xs us a.1 = 0 := by
    -- numbers at the heads are bounded, for there are finitely many
    have bd : ∀ (us : List Vec) (cols : List Nat), ∃ A : Nat, ∀ u ∈ us, ∀ c ∈ cols, (u c).natAbs ≤ A := by
      intro us cols
      have one : ∀ (u : Vec) (cols : List Nat), ∃ A : Nat, ∀ c ∈ cols, (u c).natAbs ≤ A := by
        intro u cols
        induction cols with
        | nil => exact ⟨0, fun c h => by cases h⟩
        | cons c cols ih =>
          obtain ⟨A, hA⟩ := ih
          refine ⟨A + (u c).natAbs, fun d hd => ?_⟩
          rcases List.mem_cons.mp hd with rfl | hd
          · omega
          · have := hA d hd; omega
      induction us with
      | nil => exact ⟨0, fun u h => by cases h⟩
      | cons u us ih =>
        obtain ⟨A, hA⟩ := ih
        obtain ⟨B, hB⟩ := one u cols
        refine ⟨A + B, fun v hv c hc => ?_⟩
        rcases List.mem_cons.mp hv with rfl | hv
        · have := hB c hc; omega
        · have := hA v hv c hc; omega
    obtain ⟨A, hA⟩ := bd us (F.map (·.1))
    obtain ⟨xs, h1, h2, _, h4⟩ := siegel us (F.map (·.1)) A hA (by rw [List.length_map]; omega)
    exact ⟨xs, h1, h2, fun a ha => h4 a.1 (List.mem_map.mpr ⟨a, ha, rfl⟩)⟩
  have zz := t.zero (Sp.comb hu) hz
  exact hx0 (indep_comb hi xs hl zz x hx)
theorem dim_eq {F G : List (Nat × Vec)} (t : Tri F) (s : Tri G) (h1 : ∀ a ∈ F, Sp (rowsOf G) a.2) (h2 : ∀ a ∈ G, Sp (rowsOf F) a.2) : F.length = G.length := by
  have a := dim_le s (triIndep t) fun u hu => by
    obtain ⟨b, hb, rfl⟩ := List.mem_map.mp hu
    exact h1 b hb
  have b := dim_le t (triIndep s) fun u hu => by
    obtain ⟨b, hb, rfl⟩ := List.mem_map.mp hu
    exact h2 b hb
  rw [List.length_map] at a b
  omega
end EN

set_option exponentiation.threshold 100000
/-! EP2: so many times; the noughts of lines; the law's rank; in plain Lean -/
namespace EN
open FL
/-! ### so many times: the least ones -/
def need (part x : Int) : Int := part / (Int.gcd part x : Int)
def tmS (t part x : Int) : Int := t * need part x / (Int.gcd t (need part x) : Int)
def tmF (ps : List (Int × Int)) : Int := ps.foldl (fun t p => tmS t p.1 p.2) 1
theorem gcd_pos {a b : Int} (h : 0 < a) : 0 < (Int.gcd a b : Int) := by
  have : Int.gcd a b ≠ 0 := fun e => by
    have := (Int.gcd_eq_zero_iff.mp e).1
    omega
  omega
theorem need_pos {part x : Int} (h : 0 < part) : 0 < need part x := by
  have g := gcd_pos (b := x) h
  obtain ⟨c, hc⟩ : (Int.gcd part x : Int) ∣ part := Int.gcd_dvd_left ..
  unfold need
  have e : part / (Int.gcd part x : Int) = c := by
    conv => lhs; lhs; rw [hc]
    exact Int.mul_ediv_cancel_left _ (by omega)
  rw [e]
  refine Classical.byContradiction fun hn => ?_
  have : (Int.gcd part x : Int) * c ≤ 0 := Int.mul_nonpos_of_nonneg_of_nonpos (by omega) (by omega)
  omega
theorem tmS_lcm {t part x : Int} (ht : 0 < t) (hp : 0 < part) : tmS t part x = (Nat.lcm t.natAbs (need part x).natAbs : Int) := by
  have hn := need_pos (x := x) hp
  unfold tmS
  generalize need part x = m at *
  obtain ⟨a, rfl⟩ := Int.eq_ofNat_of_zero_le (show 0 ≤ t by omega)
  obtain ⟨b, rfl⟩ := Int.eq_ofNat_of_zero_le (show 0 ≤ m by omega)
  show ((a : Int) * (b : Int)) / ((Nat.gcd a b : Nat) : Int) = ((Nat.lcm a b : Nat) : Int)
  rw [← Int.natCast_mul, ← Int.natCast_ediv]
  rfl
theorem tmS_pos {t part x : Int} (ht : 0 < t) (hp : 0 < part) : 0 < tmS t part x := by
  rw [tmS_lcm ht hp]
  have hn := need_pos (x := x) hp
  have := Nat.lcm_pos (show 0 < t.natAbs by omega) (show 0 < (need part x).natAbs by omega)
  omega
theorem tmS_dvd {t part x : Int} (ht : 0 < t) (hp : 0 < part) : t ∣ tmS t part x ∧ need part x ∣ tmS t part x := by
  have hn := need_pos (x := x) hp
  rw [tmS_lcm ht hp]
  constructor
  · have := Int.natCast_dvd_natCast.mpr (Nat.dvd_lcm_left t.natAbs (need part x).natAbs)
    rwa [Int.natAbs_of_nonneg (by omega)] at this
  · have := Int.natCast_dvd_natCast.mpr (Nat.dvd_lcm_right t.natAbs (need part x).natAbs)
    rwa [Int.natAbs_of_nonneg (a := need part x) (by omega)] at this
theorem tmS_least {t part x m : Int} (ht : 0 < t) (hp : 0 < part) (h1 : t ∣ m) (h2 : need part x ∣ m) : tmS t part x ∣ m := by
  rw [tmS_lcm ht hp]
  have a := Int.natAbs_dvd_natAbs.mpr h1
  have b := Int.natAbs_dvd_natAbs.mpr h2
  exact Int.ofNat_dvd_left.mpr (Nat.lcm_dvd a b)
theorem tmS_le {t part x : Int} (ht : 0 < t) (hp : 0 < part) : tmS t part x ≤ t * part := by
  have hn := need_pos (x := x) hp
  have g := gcd_pos (b := need part x) ht
  have h1 : tmS t part x ≤ t * need part x := by
    unfold tmS
    exact Int.ediv_le_self _ (Int.mul_nonneg (by omega) (by omega))
  have h2 : need part x ≤ part := by
    unfold need
    exact Int.ediv_le_self _ (by omega)
  have := Int.mul_le_mul_of_nonneg_left h2 (show 0 ≤ t by omega)
  omega
/-- part divides m times x just where need divides m -/
theorem need_iff {part x m : Int} (hp : 0 < part) : part ∣ m * x ↔ need part x ∣ m := by
  have g := gcd_pos (b := x) hp
  obtain ⟨c, hc⟩ : (Int.gcd part x : Int) ∣ part := Int.gcd_dvd_left ..
  obtain ⟨d, hd⟩ : (Int.gcd part x : Int) ∣ x := Int.gcd_dvd_right ..
  obtain ⟨k, hk⟩ : ∃ k : Nat, k = Int.gcd part x := ⟨_, rfl⟩
  have en : need part x = c := by
    unfold need
    rw [← hk] at hc g ⊢
    rw [hc]
    exact Int.mul_ediv_cancel_left _ (by omega)
  have cop : Int.gcd c d = 1 := by
    have q : Int.gcd ((k : Int) * c) ((k : Int) * d) = k := by rw [hk, ← hc, ← hd]
    rw [Int.gcd_mul_left] at q
    have q2 : k * Int.gcd c d = k * 1 := by simpa using q
    exact Nat.eq_of_mul_eq_mul_left (by omega) q2
  rw [← hk] at g hc hd
  rw [en, hc, hd]
  constructor
  · intro h
    have h1 : (k : Int) * c ∣ (k : Int) * (m * d) := by
      rw [show (k : Int) * (m * d) = m * ((k : Int) * d) by rw [Int.mul_left_comm]]
      exact h
    have h2 : c ∣ m * d := Int.dvd_of_mul_dvd_mul_left (by omega) h1
    have h3 := Int.natAbs_dvd_natAbs.mpr h2
    rw [Int.natAbs_mul] at h3
    have c2 : Nat.Coprime c.natAbs d.natAbs := cop
    exact Int.natAbs_dvd_natAbs.mp (c2.dvd_of_dvd_mul_right h3)
  · rintro ⟨q, rfl⟩
    refine ⟨q * d, ?_⟩
    rw [Int.mul_assoc c q, Int.mul_left_comm q, ← Int.mul_assoc c, Int.mul_comm c]
theorem tmF_app (ps : List (Int × Int)) (p : Int × Int) : tmF (ps ++ [p]) = tmS (tmF ps) p.1 p.2 := by
  unfold tmF
  rw [List.foldl_append]; rfl
theorem tmF_all : ∀ (n : Nat) (ps : List (Int × Int)), ps.length = n → (∀ p ∈ ps, 0 < p.1) → 0 < tmF ps ∧ (∀ p ∈ ps, p.1 ∣ tmF ps * p.2) ∧ ∀ m : Int, (∀ p ∈ ps, p.1 ∣ m * p.2) → tmF ps ∣ m
  | 0, ps, hl, _ => by
    have : ps = [] := List.eq_nil_of_length_eq_zero hl
    subst this
    exact ⟨by decide, nofun, fun m _ => Int.one_dvd m⟩
  | n + 1, ps, hl, hp => by
    obtain ⟨qs, q, rfl⟩ : ∃ qs q, ps = qs ++ [q] := by
      have hne : ps ≠ [] := fun e => by rw [e] at hl; simp at hl
      exact ⟨ps.dropLast, ps.getLast hne, (List.dropLast_concat_getLast hne).symm⟩
    obtain ⟨i1, i2, i3⟩ := tmF_all n qs (by simpa using hl) fun p h => hp p (List.mem_append_left _ h)
    have hq := hp q (by simp)
    rw [tmF_app]
    obtain ⟨d1, d2⟩ := tmS_dvd (x := q.2) i1 hq
    refine ⟨tmS_pos i1 hq, fun p h => ?_, fun m h => ?_⟩
    · rcases List.mem_append.mp h with h | h
      · exact (need_iff (hp p (List.mem_append_left _ h))).mpr (Int.dvd_trans ((need_iff (hp p (List.mem_append_left _ h))).mp (i2 p h)) d1)
      · rw [List.mem_singleton] at h
        subst h
        exact (need_iff hq).mpr d2
    · exact tmS_least i1 hq (i3 m fun p h' => h p (List.mem_append_left _ h')) ((need_iff hq).mp (h q (by simp)))
theorem tmF_bd {e : Nat} (he : 1 ≤ e) : ∀ (n : Nat) (ps : List (Int × Int)), ps.length = n → (∀ p ∈ ps, 0 < p.1 ∧ Bd e p.1) → Bd (e * n + 1) (tmF ps)
  | 0, ps, hl, _ => by
    have : ps = [] := List.eq_nil_of_length_eq_zero hl
    subst this
    exact Bd.lit (by show 1 < 2 ^ (e * 0 + 1); simp)
  | n + 1, ps, hl, hp => by
    obtain ⟨qs, q, rfl⟩ : ∃ qs q, ps = qs ++ [q] := by
      have hne : ps ≠ [] := fun e => by rw [e] at hl; simp at hl
      exact ⟨ps.dropLast, ps.getLast hne, (List.dropLast_concat_getLast hne).symm⟩
    have ih := tmF_bd he n qs (by simpa using hl) fun p h => hp p (List.mem_append_left _ h)
    obtain ⟨i1, _, _⟩ := tmF_all n qs (by simpa using hl) fun p h => (hp p (List.mem_append_left _ h)).1
    have hq := hp q (by simp)
    rw [tmF_app]
    have h1 := tmS_le (x := q.2) i1 hq.1
    have h2 := tmS_pos (x := q.2) i1 hq.1
    have h3 := ih.mul hq.2
    rw [show e * (n + 1) + 1 = e * n + 1 + e by rw [Nat.mul_succ]; omega]
    unfold Bd at h3 ⊢
    omega
/-- no number above 1 divides the times and all the multiples -/
theorem tmF_prim {ps : List (Int × Int)} (hp : ∀ p ∈ ps, 0 < p.1) (d : Int) (h1 : d ∣ tmF ps) (h2 : ∀ p ∈ ps, d ∣ tmF ps * p.2 / p.1) : d ∣ 1 := by
  obtain ⟨i1, i2, i3⟩ := tmF_all _ ps rfl hp
  obtain ⟨m, hm⟩ := h1
  have hd0 : d ≠ 0 := fun e => by rw [e, Int.zero_mul] at hm; omega
  have := i3 m fun p h => by
    obtain ⟨q, hq⟩ := h2 p h
    have e1 : p.1 * (tmF ps * p.2 / p.1) = tmF ps * p.2 := Int.mul_ediv_cancel' (i2 p h)
    rw [hq, hm] at e1
    refine ⟨q, Int.eq_of_mul_eq_mul_left hd0 ?_⟩
    rw [← Int.mul_assoc, ← e1, Int.mul_left_comm]
  have hm0 : m ≠ 0 := fun e => by rw [e, Int.mul_zero] at hm; omega
  rw [hm] at this
  obtain ⟨k, hk⟩ := this
  refine ⟨k, Int.eq_of_mul_eq_mul_left hm0 ?_⟩
  rw [Int.mul_one]
  conv => lhs; rw [hk]
  rw [Int.mul_comm d m, Int.mul_assoc]
/-! ### the sum of the products, place by place -/
def dotV (n : Nat) (u v : Vec) : Int := ((List.range n).map fun j => u j * v j).sum
theorem dotV_succ (n : Nat) (u v : Vec) : dotV (n + 1) u v = dotV n u v + u n * v n := by
  unfold dotV
  rw [List.range_succ, List.map_append, List.sum_append]
  simp
theorem dotV_add (n : Nat) (u v w : Vec) : dotV n u (fun j => v j + w j) = dotV n u v + dotV n u w := by
  induction n with
  | zero => rfl
  | succ n ih => rw [dotV_succ, dotV_succ, dotV_succ, ih, Int.mul_add]; omega
theorem dotV_smul (n : Nat) (u : Vec) (c : Int) (v : Vec) : dotV n u (fun j => c * v j) = c * dotV n u v := by
  induction n with
  | zero => simp [dotV]
  | succ n ih => rw [dotV_succ, dotV_succ, ih, Int.mul_add, Int.mul_left_comm]
theorem dotV_zero (n : Nat) (u : Vec) : dotV n u (fun _ => 0) = 0 := by
  induction n with
  | zero => rfl
  | succ n ih => rw [dotV_succ, ih]; simp
theorem dotV_comm (n : Nat) (u v : Vec) : dotV n u v = dotV n v u := by
  induction n with
  | zero => rfl
  | succ n ih => rw [dotV_succ, dotV_succ, ih, Int.mul_comm]
/-- what is 0 with all of some lines is so with all that is made of them -/
theorem dotV_sp {n : Nat} {u : Vec} {S : Vec → Prop} (h : ∀ v, S v → dotV n u v = 0) {v : Vec} (hv : Sp S v) : dotV n u v = 0 := by
  have k := Sp.kills (fun v => fun _ => dotV n u v) (by funext j; exact dotV_zero n u) (fun a b => by funext j; exact dotV_add n u a b) (fun c a => by funext j; exact dotV_smul n u c a) (fun v hs => by funext j; exact h v hs) hv
  exact congrFun k 0
theorem dotV_off {n : Nat} {u v : Vec} (h : ∀ j, j < n → u j * v j = 0) : dotV n u v = 0 := by
  induction n with
  | zero => rfl
  | succ n ih => rw [dotV_succ, ih fun j hj => h j (by omega), h n (by omega)]; rfl
theorem dotV_one {n p : Nat} {u v : Vec} (hp : p < n) (h : ∀ j, j < n → j ≠ p → u j * v j = 0) : dotV n u v = u p * v p := by
  induction n with
  | zero => omega
  | succ n ih =>
    rw [dotV_succ]
    by_cases e : p = n
    · subst e
      rw [dotV_off fun j hj => h j (by omega) (by omega)]
      omega
    · rw [ih (by omega) fun j hj hn => h j (by omega) hn, h n (by omega) (by omega)]
      omega
theorem dotV_two {n p q : Nat} {u v : Vec} (hp : p < n) (hq : q < n) (hpq : p ≠ q) (h : ∀ j, j < n → j ≠ p → j ≠ q → u j * v j = 0) : dotV n u v = u p * v p + u q * v q := by
  have e : dotV n u v = dotV n u (fun j => if j = p then v j else 0) + dotV n u (fun j => if j = p then 0 else v j) := by
    rw [← dotV_add]
    congr 1
    funext j
    by_cases e : j = p <;> simp [e]
  rw [e, dotV_one hp (fun j hj hn => by simp [hn]), dotV_one (p := q) hq (fun j hj hn => by
    by_cases e : j = p
    · simp [e]
    · simp [e, h j hj e hn])]
  have : ¬ q = p := fun e => hpq e.symm
  simp [this]
/-! ### the lines that are 0 with all of some -/
/-- what nought_by makes: noughts, but at a place that is no head and at the heads -/
structure Nb (n : Nat) (F : List (Nat × List Int)) (free : Nat) (z : List Int) : Prop where
  len : z.length = n
  pos : 0 < fn z free
  at' : ∀ a ∈ F, fn z a.1 * fn a.2 a.1 = - (fn z free * fn a.2 free)
  off : ∀ j, j ≠ free → (∀ a ∈ F, a.1 ≠ j) → fn z j = 0
  prim : ∀ d : Int, (∀ j, d ∣ fn z j) → d ∣ 1
theorem nb_dot {n : Nat} {F : List (Nat × List Int)} (h : St n F) {free : Nat} (hf : free < n) (hnf : ∀ a ∈ F, a.1 ≠ free) {w : Vec} (off : ∀ j, j ≠ free → (∀ a ∈ F, a.1 ≠ j) → w j = 0) {a : Nat × List Int} (ha : a ∈ F) : dotV n w (fn a.2) = w a.1 * fn a.2 a.1 + w free * fn a.2 free := by
  refine dotV_two (h.lt ha) hf (hnf a ha) fun j hj h1 h2 => ?_
  by_cases e : ∃ b ∈ F, b.1 = j
  · obtain ⟨b, hb, rfl⟩ := e
    rw [h.off a ha b hb (fun q => h1 q.symm)]
    simp
  · rw [off j h2 fun b hb q => e ⟨b, hb, q⟩]
    simp
theorem Nb.dot {n : Nat} {F : List (Nat × List Int)} (h : St n F) {free : Nat} (hf : free < n) (hnf : ∀ a ∈ F, a.1 ≠ free) {z : List Int} (hz : Nb n F free z) {v : Vec} (hv : SpF F v) : dotV n (fn z) v = 0 := by
  refine dotV_sp (fun u hu => ?_) hv
  obtain ⟨a, ha, rfl⟩ := rowsOf_vecs.mp hu
  rw [nb_dot h hf hnf hz.off ha, hz.at' a ha]
  omega
/-- units -/
def un (c : Nat) : Vec := fun j => if j = c then 1 else 0
theorem un_same (c : Nat) : un c c = 1 := if_pos rfl
theorem un_ne {c j : Nat} (h : ¬ j = c) : un c j = 0 := if_neg h
theorem comb_unit_out : ∀ (cs : List Nat) (xs : List Int) (j : Nat), j ∉ cs → comb xs (cs.map un) j = 0
  | [], xs, j, _ => by cases xs <;> simp [comb]
  | c :: cs, [], j, _ => by simp [comb]
  | c :: cs, x :: xs, j, h => by
    rw [List.map_cons, comb_cons, comb_unit_out cs xs j fun e => h (List.mem_cons_of_mem _ e)]
    have : ¬ j = c := fun e => h (by rw [e]; exact List.mem_cons_self)
    simp [un_ne this]
theorem comb_unit_zero : ∀ (cs : List Nat) (xs : List Int), cs.Nodup → xs.length = cs.length → (∀ c ∈ cs, comb xs (cs.map un) c = 0) → ∀ x ∈ xs, x = 0
  | [], [], _, _, _, x, hx => by cases hx
  | [], _ :: _, _, h, _, _, _ => by simp at h
  | _ :: _, [], _, h, _, _, _ => by simp at h
  | c :: cs, y :: ys, hn, hl, h, x, hx => by
    obtain ⟨n1, n2⟩ := List.nodup_cons.mp hn
    have h0 := h c List.mem_cons_self
    rw [List.map_cons, comb_cons, comb_unit_out cs ys c n1] at h0
    have y0 : y = 0 := by simpa [un_same] using h0
    rcases List.mem_cons.mp hx with rfl | hx
    · exact y0
    · refine comb_unit_zero cs ys n2 (by simpa using hl) (fun d hd => ?_) x hx
      have := h d (List.mem_cons_of_mem _ hd)
      rw [List.map_cons, comb_cons, y0] at this
      simpa using this
theorem comb_unit_bd {B : Nat} : ∀ (cs : List Nat) (xs : List Int), cs.Nodup → (∀ x ∈ xs, x.natAbs ≤ B) → ∀ j, (comb xs (cs.map un) j).natAbs ≤ B
  | [], xs, _, _, j => by cases xs <;> simp [comb]
  | c :: cs, [], _, _, j => by simp [comb]
  | c :: cs, x :: xs, hn, h, j => by
    obtain ⟨n1, n2⟩ := List.nodup_cons.mp hn
    rw [List.map_cons, comb_cons]
    by_cases e : j = c
    · subst e
      rw [comb_unit_out cs xs j n1]
      have := h x List.mem_cons_self
      simpa [un_same] using this
    · have := comb_unit_bd cs xs n2 (fun y hy => h y (List.mem_cons_of_mem _ hy)) j
      simpa [un_ne e] using this
theorem dotV_unit {n c : Nat} (hc : c < n) (v : Vec) : dotV n (un c) v = v c := by
  rw [dotV_one hc fun j _ hj => by simp [un_ne hj]]
  simp [un_same]
theorem dotV_comb (n : Nat) (v : Vec) : ∀ (cs : List Nat) (xs : List Int), (∀ c ∈ cs, c < n) → dotV n (comb xs (cs.map un)) v = comb xs (cs.map fun c => fun _ => v c) 0
  | [], xs, _ => by
    have e : comb xs (([] : List Nat).map un) = fun _ => 0 := by funext j; cases xs <;> simp [comb]
    rw [e, dotV_comm, dotV_zero]
    cases xs <;> simp [comb]
  | c :: cs, [], _ => by
    have e : comb [] ((c :: cs).map un) = fun _ => 0 := by funext j; simp [comb]
    rw [e, dotV_comm, dotV_zero]
    simp [comb]
  | c :: cs, x :: xs, h => by
    have e : comb (x :: xs) ((c :: cs).map un) = fun j => x * un c j + comb xs (cs.map un) j := by
      funext j
      rw [List.map_cons, comb_cons]
    rw [e, dotV_comm, dotV_add, dotV_smul, dotV_comm n v, dotV_comm n v, dotV_unit (h c List.mem_cons_self), dotV_comb n v cs xs fun d hd => h d (List.mem_cons_of_mem _ hd), List.map_cons, comb_cons]
/-- small lines of which the list's rows come -/
structure Basis (A : Nat) (F : List (Nat × List Int)) (us : List Vec) : Prop where
  len : us.length = F.length
  bd : ∀ u ∈ us, ∀ c, (u c).natAbs ≤ A
  sp : ∀ a ∈ F, Sp (fun v => v ∈ us) (fn a.2)
theorem comb_eq (f g : Nat → Vec) (i j : Nat) (h : ∀ c, f c i = g c j) : ∀ (cs : List Nat) (xs : List Int), comb xs (cs.map f) i = comb xs (cs.map g) j
  | [], xs => by cases xs <;> simp [comb]
  | c :: cs, [] => by simp [comb]
  | c :: cs, x :: xs => by rw [List.map_cons, List.map_cons, comb_cons, comb_cons, h c, comb_eq f g i j h cs xs]
theorem Nb.small {n A : Nat} {F : List (Nat × List Int)} (h : St n F) {us : List Vec} (hb : Basis A F us) {free : Nat} (hf : free < n) (hnf : ∀ a ∈ F, a.1 ≠ free) {z : List Int} (hz : Nb n F free z) : ∀ j, (fn z j).natAbs ≤ (2 * ((F.length + 1) * A) + 1) ^ F.length := by
  obtain ⟨cs, ecs⟩ : ∃ cs, cs = free :: F.map (·.1) := ⟨_, rfl⟩
  have lcs : cs.length = F.length + 1 := by rw [ecs]; simp
  have ncs : cs.Nodup := by
    rw [ecs, List.nodup_cons]
    refine ⟨fun q => ?_, ?_⟩
    · obtain ⟨a, ha, e⟩ := List.mem_map.mp q
      exact hnf a ha e
    · have := h.ord
      refine List.Pairwise.imp (fun {a b} h => ?_) (List.pairwise_map.mpr this : (F.map (·.1)).Pairwise (· < ·))
      omega
  have lt : ∀ c ∈ cs, c < n := fun c hc => by
    rw [ecs] at hc
    rcases List.mem_cons.mp hc with rfl | hc
    · exact hf
    · obtain ⟨a, ha, rfl⟩ := List.mem_map.mp hc
      exact h.lt ha
  obtain ⟨xs, x1, ⟨x, hx, hx0⟩, x3, x4⟩ := siegel (cs.map fun c => fun i => (us[i]?.getD fun _ => 0) c) (List.range F.length) A (fun u hu i hi => by
    obtain ⟨c, hc, rfl⟩ := List.mem_map.mp hu
    have hi := List.mem_range.mp hi
    rw [← hb.len] at hi
    simp only [List.getElem?_eq_getElem hi, Option.getD_some]
    exact hb.bd _ (List.getElem_mem hi) c) (by simp [lcs])
  rw [List.length_map, lcs] at x1
  rw [List.length_map, lcs, List.length_range] at x3
  obtain ⟨w, ew⟩ : ∃ w, w = comb xs (cs.map un) := ⟨_, rfl⟩
  have wo : ∀ u ∈ us, dotV n w u = 0 := fun u hu => by
    obtain ⟨i, hi, rfl⟩ := List.mem_iff_getElem.mp hu
    rw [ew, dotV_comb n _ cs xs lt]
    have := x4 i (List.mem_range.mpr (by rw [← hb.len]; exact hi))
    rw [← this]
    refine comb_eq _ _ 0 i (fun c => ?_) cs xs
    simp only [List.getElem?_eq_getElem hi, Option.getD_some]
  have wF : ∀ a ∈ F, dotV n w (fn a.2) = 0 := fun a ha => dotV_sp wo (hb.sp a ha)
  have off : ∀ j, j ≠ free → (∀ a ∈ F, a.1 ≠ j) → w j = 0 := fun j h1 h2 => by
    rw [ew]
    refine comb_unit_out cs xs j fun q => ?_
    rw [ecs] at q
    rcases List.mem_cons.mp q with q | q
    · exact h1 q
    · obtain ⟨a, ha, e⟩ := List.mem_map.mp q
      exact h2 a ha e
  have wat : ∀ a ∈ F, w a.1 * fn a.2 a.1 = - (w free * fn a.2 free) := fun a ha => by
    have := wF a ha
    rw [nb_dot h hf hnf off ha] at this
    omega
  have w0 : w free ≠ 0 := fun e => by
    refine hx0 (comb_unit_zero cs xs ncs (by rw [x1, lcs]) (fun c hc => ?_) x hx)
    rw [← ew]
    rw [ecs] at hc
    rcases List.mem_cons.mp hc with rfl | hc
    · exact e
    · obtain ⟨a, ha, rfl⟩ := List.mem_map.mp hc
      have := wat a ha
      rw [e, Int.zero_mul, Int.neg_zero] at this
      rcases Int.mul_eq_zero.mp this with q | q
      · exact q
      · have := h.pos a ha; omega
  have par : ∀ j, w free * fn z j = fn z free * w j := fun j => by
    by_cases e : j = free
    · rw [e, Int.mul_comm]
    · by_cases hj : ∃ a ∈ F, a.1 = j
      · obtain ⟨a, ha, rfl⟩ := hj
        have e1 := wat a ha
        have e2 := hz.at' a ha
        refine Int.eq_of_mul_eq_mul_right (a := fn a.2 a.1) (by have := h.pos a ha; omega) ?_
        rw [Int.mul_assoc, e2, Int.mul_assoc, e1, Int.mul_neg, Int.mul_neg, Int.mul_left_comm]
      · have hj' : ∀ a ∈ F, a.1 ≠ j := fun a ha q => hj ⟨a, ha, q⟩
        rw [hz.off j e hj', off j e hj']
        simp
  intro j
  have l1 := prim_least hz.prim w0 par j
  have l2 := comb_unit_bd cs xs ncs x3 j
  rw [← ew] at l2
  omega
/-- lines, each with a place at which the others are 0 -/
theorem nb_tri {n : Nat} {F : List (Nat × List Int)} {zs : List (Nat × List Int)} (hz : ∀ z ∈ zs, Nb n F z.1 z.2 ∧ ∀ a ∈ F, a.1 ≠ z.1) (hn : zs.Pairwise fun a b => a.1 < b.1) : Tri (vecs zs) := by
  refine ⟨?_, fun a ha => ?_⟩
  · rw [List.pairwise_map]
    refine hn.imp_of_mem fun {a b} ha hb hab => ?_
    exact (hz b hb).1.off a.1 (by omega) fun c hc q => (hz a ha).2 c hc q
  · obtain ⟨b, hb, rfl⟩ := List.mem_map.mp ha
    have := (hz b hb).1.pos
    show fn b.2 b.1 ≠ 0
    omega
theorem chain_outs {G : List (Nat × Vec)} {us : List Vec} (h : Chain G us) : ∀ a ∈ G, Sp (fun v => v ∈ us) a.2 := by
  induction h with
  | nil => exact nofun
  | @cons a G L us _ _ _ _ ha ih =>
    have up : ∀ b ∈ G, Sp (fun v => v ∈ L :: us) b.2 := fun b hb => Sp.trans (fun v hv => .mem (List.mem_cons_of_mem _ hv)) (ih b hb)
    intro b hb
    rcases List.mem_cons.mp hb with rfl | hb
    · refine Sp.trans (fun v hv => ?_) ha
      rcases hv with rfl | ⟨c, hc, rfl⟩
      · exact .mem List.mem_cons_self
      · exact up c hc
    · exact up b hb
theorem settled_exists2 {n A a k R : Nat} (z : Sizes n A k R) (z2 : Sizes2 n A a R) (lines : List (List Int)) (hl : ∀ l ∈ lines, l.length = n ∧ (∀ j, (fn l j).natAbs ≤ A) ∧ ∀ x ∈ l, Bd 13500 x) (hR : n ≤ R ∨ lines.length ≤ R) :
    ∃ t ps F, PutRun n k [] lines t ∧ ps.Pairwise (· < ·) ∧ ps.Perm (t.map (·.1)) ∧ FinRun n 13500 t ps [] (F.map (·.2)) ∧ Made n (R * (a + 6)) lines F ∧ ∃ us, Basis A F us := by
  have h0 : TabOk n A [] (fun _ _ => 0) := ⟨nofun, nofun, nofun, nofun⟩
  obtain ⟨t, gl, p1, p2, p3, p4, p5, p6, p7⟩ := put_all2 z lines [] _ h0 (by simp) hl (by simpa using hR)
  have hpos := putrun_pos p1 (fun p row e => by cases e)
  obtain ⟨ps, s1, s2⟩ := sort_ex _ p3
  have hall : ∀ q, (∃ row, getT t q = some row) ↔ q ∈ ps := fun q => by
    rw [s2.mem_iff]
    exact ⟨fun ⟨row, e⟩ => getT_mem e, fun h => mem_getT h⟩
  have ln : ps.length ≤ n := by
    have := inc_len ps 0 n s1 fun x hx => by
      obtain ⟨row, e⟩ := (hall x).mpr hx
      obtain ⟨r1, r2, _⟩ := p2.row x row e
      have := (head_fn r2).1
      omega
    omega
  have lt : ps.length ≤ lines.length := by
    rw [s2.length_eq, List.length_map]
    simpa using p7
  obtain ⟨F, w1, w2, w3, w4, w5, w6⟩ := fin_exists p2 hpos z2 hall (by omega) s1 ps [] rfl ⟨.nil, nofun, nofun, nofun, nofun, nofun⟩ (fun a h => by cases h) (fun a h => by cases h) (fun p row e h => by cases h)
  refine ⟨t, ps, F, p1, s1, s2, w1, ⟨w3, fun l hl => ?_, fun b hb => ?_, ?_, w5⟩, linesUp t gl n 0, ?_, fun u hu c => ?_, fun b hb => ?_⟩
  · exact Sp.trans (fun v ⟨q, row, er, e⟩ => by rw [e]; exact w6 q row er) (p5 l hl)
  · refine Sp.trans (fun v hv => ?_) (w4 b hb)
    refine Sp.trans (fun u hu => ?_) (p6 v hv)
    rcases hu with ⟨q, row, er, _⟩ | hu
    · cases er
    · exact .mem hu
  · have := congrArg List.length w2
    rw [List.length_map] at this
    omega
  · have c := p2.chain n 0 (by omega)
    have er : rowsOf (rowsUp t n 0).reverse = Rows t := by
      rw [← rowsUp_all p2]
      exact rowsOf_perm fun x => List.mem_reverse
    rw [c.len]
    have := dim_eq c.tri w3.tri (fun a ha => by
      obtain ⟨_, _, row, h3, h4⟩ := rowsUp_mem.mp (List.mem_reverse.mp ha)
      rw [h4]; exact w6 _ _ h3) (fun a ha => by
      obtain ⟨b, hb, rfl⟩ := List.mem_map.mp ha
      rw [er]; exact w4 b hb)
    simpa using this
  · obtain ⟨q, r, a, b⟩ := linesUp_mem hu
    rw [b]; exact p2.bd q r a c
  · have c := p2.chain n 0 (by omega)
    refine Sp.trans (fun v hv => ?_) (w4 b hb)
    rw [← rowsUp_all p2] at hv
    obtain ⟨x, hx, rfl⟩ := hv
    exact chain_outs c x hx
/-- lines that are a settled list already -/
theorem St.again {n e : Nat} {F G : List (Nat × List Int)} (h : St n F) (m : Made n e (F.map (·.2)) G) : G = F := by
  refine m.st.one h (fun a ha => ?_) fun a ha => ?_
  · refine Sp.trans (fun v ⟨l, hl, q⟩ => ?_) (m.out a ha)
    obtain ⟨b, hb, rfl⟩ := List.mem_map.mp hl
    rw [q]; exact .mem (rowsOf_vecs.mpr ⟨b, hb, rfl⟩)
  · exact m.ins a.2 (List.mem_map.mpr ⟨a, ha, rfl⟩)
/-- the places that are no heads -/
def frees (n : Nat) (F : List (Nat × List Int)) : List Nat := (List.range n).filter fun j => decide (j ∉ F.map (·.1))
theorem frees_mem {n : Nat} {F : List (Nat × List Int)} {j : Nat} : j ∈ frees n F ↔ j < n ∧ ∀ a ∈ F, a.1 ≠ j := by
  unfold frees
  rw [List.mem_filter, List.mem_range]
  simp only [decide_eq_true_eq, List.mem_map, not_exists, not_and]
theorem frees_inc (n : Nat) (F : List (Nat × List Int)) : (frees n F).Pairwise (· < ·) := List.pairwise_lt_range.filter _
theorem len_parts {α : Type} (p : α → Bool) : ∀ l : List α, l.length = (l.filter p).length + (l.filter fun x => !p x).length
  | [] => rfl
  | x :: l => by
    have ih := len_parts p l
    cases h : p x <;> simp [h] <;> omega
theorem frees_len {n : Nat} {F : List (Nat × List Int)} (h : St n F) : (frees n F).length + F.length = n := by
  have e := len_parts (fun j => decide (j ∉ F.map (·.1))) (List.range n)
  rw [List.length_range] at e
  have p : ((List.range n).filter fun j => !decide (j ∉ F.map (·.1))).Perm (F.map (·.1)) := by
    refine (List.perm_ext_iff_of_nodup (List.Pairwise.filter _ List.nodup_range) ?_).mpr fun j => ?_
    · refine List.Pairwise.imp (fun {a b} h => ?_) (List.pairwise_map.mpr h.ord : (F.map (·.1)).Pairwise (· < ·))
      omega
    · rw [List.mem_filter, List.mem_range]
      constructor
      · rintro ⟨_, q⟩
        simpa using q
      · intro q
        obtain ⟨a, ha, rfl⟩ := List.mem_map.mp q
        refine ⟨h.lt ha, ?_⟩
        simp only [Bool.not_eq_true', decide_eq_false_iff_not]
        exact fun h => h q
  have := p.length_eq
  rw [List.length_map] at this
  unfold frees
  omega
theorem sizesN {n r : Nat} (hn : n ≤ 7) (hr : r ≤ n) : ∃ k, Sizes n ((2 ^ 276) ^ r) k (n - r) ∧ Sizes2 n ((2 ^ 276) ^ r) (276 * r) (n - r) := by
  have e : (2 ^ 276) ^ r = 2 ^ (276 * r) := (Nat.pow_mul 2 276 r).symm
  rw [e]
  by_cases h0 : n - r = 0
  · refine ⟨0, ⟨by omega, ?_, by omega⟩, ⟨by omega, Nat.le_refl _, by omega, fun m k h1 h2 => by omega⟩⟩
    rw [h0]
    unfold sb
    simp
  · refine ⟨(n - r) * (276 * r + 6), ⟨by omega, sb_bits (by omega) (by omega) (Nat.le_refl _), ?_⟩, ⟨by omega, Nat.le_refl _, by omega, fun m k h1 h2 => ?_⟩⟩
    · have : r = 0 ∨ r = 1 ∨ r = 2 ∨ r = 3 ∨ r = 4 ∨ r = 5 ∨ r = 6 := by omega
      rcases this with rfl | rfl | rfl | rfl | rfl | rfl | rfl <;> omega
    · have : r = 0 ∨ r = 1 ∨ r = 2 ∨ r = 3 ∨ r = 4 ∨ r = 5 ∨ r = 6 := by omega
      have h7 : n - r ≤ 7 - r := by omega
      generalize n - r = R at *
      rcases this with rfl | rfl | rfl | rfl | rfl | rfl | rfl
      all_goals
        have hR : R = 0 ∨ R = 1 ∨ R = 2 ∨ R = 3 ∨ R = 4 ∨ R = 5 ∨ R = 6 ∨ R = 7 := by omega
        rcases hR with rfl | rfl | rfl | rfl | rfl | rfl | rfl | rfl <;> omega
theorem nb_fit {F : List (Nat × List Int)} {A : Nat} (hA : A ≤ 2 ^ 270) (hF : F.length ≤ 7) : (2 * ((F.length + 1) * A) + 1) ^ F.length ≤ (2 ^ 276) ^ F.length := by
  refine Nat.pow_le_pow_left ?_ _
  have : (F.length + 1) * A ≤ 8 * 2 ^ 270 := Nat.mul_le_mul (by omega) hA
  have e : 2 ^ 276 = 64 * 2 ^ 270 := by decide
  have p := Nat.two_pow_pos 270
  omega
/-- the noughts of lines: as many as there are places that are no heads -/
structure Nought (n e : Nat) (F G : List (Nat × List Int)) : Prop where
  st : St n G
  len : G.length + F.length = n
  dot : ∀ b ∈ G, ∀ v, SpF F v → dotV n (fn b.2) v = 0
  bd : ∀ b ∈ G, ∀ x ∈ b.2, Bd e x
theorem nought_made {n e : Nat} {F : List (Nat × List Int)} (h : St n F) {zs G : List (Nat × List Int)} (hfr : zs.map (·.1) = frees n F) (hz : ∀ z ∈ zs, Nb n F z.1 z.2) (m : Made n e (zs.map (·.2)) G) : Nought n e F G := by
  have hm : ∀ z ∈ zs, z.1 < n ∧ ∀ a ∈ F, a.1 ≠ z.1 := fun z hz => frees_mem.mp (by rw [← hfr]; exact List.mem_map.mpr ⟨z, hz, rfl⟩)
  have ord : zs.Pairwise fun a b => a.1 < b.1 := by
    have := frees_inc n F
    rw [← hfr] at this
    exact List.pairwise_map.mp this
  have t := nb_tri (fun z h' => ⟨hz z h', (hm z h').2⟩) ord
  refine ⟨m.st, ?_, fun b hb v hv => ?_, m.bd⟩
  · have d := dim_eq t m.st.tri (fun a ha => by
      obtain ⟨b, hb, rfl⟩ := List.mem_map.mp ha
      exact m.ins b.2 (List.mem_map.mpr ⟨b, hb, rfl⟩)) (fun a ha => by
      obtain ⟨b, hb, rfl⟩ := List.mem_map.mp ha
      refine Sp.trans (fun v ⟨l, hl, q⟩ => ?_) (m.out b hb)
      obtain ⟨c, hc, rfl⟩ := List.mem_map.mp hl
      rw [q]; exact .mem (rowsOf_vecs.mpr ⟨c, hc, rfl⟩))
    have l1 := frees_len h
    have l2 := congrArg List.length hfr
    rw [List.length_map] at l2 d
    rw [List.length_map] at d
    omega
  · rw [dotV_comm]
    refine dotV_sp (fun u ⟨l, hl, q⟩ => ?_) (m.out b hb)
    obtain ⟨z, hz', rfl⟩ := List.mem_map.mp hl
    rw [q, dotV_comm]
    exact (hz z hz').dot h (hm z hz').1 (hm z hz').2 hv
/-! ### the law's rank: clearing places -/
theorem sp_raw {S : Vec → Prop} {xs ys : List Int} {p : Nat} (hl : xs.length = ys.length) (hx : Sp S (fn xs)) (hy : Sp S (fn ys)) : Sp S (fn (rawF xs ys p)) := by
  have e : fn (rawF xs ys p) = fun j => fn ys p * fn xs j - fn xs p * fn ys j := by funext j; exact fn_raw xs ys p hl j
  rw [e]
  exact Sp.cross hx hy _ _
theorem sp_unraw {S : Vec → Prop} {xs ys : List Int} {p : Nat} (hl : xs.length = ys.length) (h0 : fn ys p ≠ 0) (hc : Sp S (fn (rawF xs ys p))) (hy : Sp S (fn ys)) : Sp S (fn xs) := by
  refine Sp.part h0 ?_
  have e : (fun j => fn ys p * fn xs j) = fun j => fn (rawF xs ys p) j + fn xs p * fn ys j := by
    funext j
    rw [fn_raw xs ys p hl j]
    omega
  rw [e]
  exact Sp.add hc (Sp.smul _ hy)
abbrev PQ (P : List (Nat × List Int)) (Q : List (List Int)) : Vec → Prop := fun v => (∃ a ∈ P, v = fn a.2) ∨ ∃ q ∈ Q, v = fn q
structure Rk (n S : Nat) (lines : List (List Int)) (p : Nat) (P : List (Nat × List Int)) (Q : List (List Int)) : Prop where
  plen : ∀ a ∈ P, a.2.length = n
  qlen : ∀ q ∈ Q, q.length = n
  pb : ∀ a ∈ P, ∀ x ∈ a.2, Bd S x
  qb : ∀ q ∈ Q, ∀ x ∈ q, Bd S x
  pc : ∀ a ∈ P, a.1 < p ∧ fn a.2 a.1 ≠ 0 ∧ ∀ j, j < a.1 → fn a.2 j = 0
  ord : P.Pairwise fun a b => a.1 < b.1
  qz : ∀ q ∈ Q, ∀ j, j < p → fn q j = 0
  ins : ∀ l ∈ lines, Sp (PQ P Q) (fn l)
  outp : ∀ a ∈ P, Sp (Lns lines) (fn a.2)
  outq : ∀ q ∈ Q, Sp (Lns lines) (fn q)
theorem Rk.start {n S : Nat} {lines : List (List Int)} (hl : ∀ l ∈ lines, l.length = n) (hb : ∀ l ∈ lines, ∀ x ∈ l, Bd S x) : Rk n S lines 0 [] lines :=
  ⟨nofun, hl, nofun, hb, nofun, .nil, fun q _ j hj => absurd hj (by omega), fun l h => .mem (.inr ⟨l, h, rfl⟩), nofun, fun q h => .mem ⟨q, h, rfl⟩⟩
theorem Rk.skip {n S p : Nat} {lines : List (List Int)} {P : List (Nat × List Int)} {Q : List (List Int)} (h : Rk n S lines p P Q) (hz : ∀ q ∈ Q, fn q p = 0) : Rk n (2 * S + 1) lines (p + 1) P Q :=
  ⟨h.plen, h.qlen, fun a ha x hx => (h.pb a ha x hx).mono (by omega), fun a ha x hx => (h.qb a ha x hx).mono (by omega), fun a ha => ⟨by have := (h.pc a ha).1; omega, (h.pc a ha).2⟩, h.ord, fun q hq j hj => by
    by_cases e : j = p
    · rw [e]; exact hz q hq
    · exact h.qz q hq j (by omega), h.ins, h.outp, h.outq⟩
theorem Rk.take {n S p : Nat} {lines : List (List Int)} {P : List (Nat × List Int)} {Q1 Q2 : List (List Int)} {top : List Int} (h : Rk n S lines p P (Q1 ++ top :: Q2)) (ht : fn top p ≠ 0) (hp : p < n) : Rk n (2 * S + 1) lines (p + 1) (P ++ [(p, top)]) ((Q1 ++ Q2).map fun q => rawF q top p) := by
  have tm : top ∈ Q1 ++ top :: Q2 := by simp
  have tl := h.qlen top tm
  have sub : ∀ q ∈ Q1 ++ Q2, q ∈ Q1 ++ top :: Q2 := fun q hq => by
    rcases List.mem_append.mp hq with hq | hq
    · exact List.mem_append_left _ hq
    · exact List.mem_append_right _ (List.mem_cons_of_mem _ hq)
  have ql : ∀ q ∈ Q1 ++ Q2, q.length = top.length := fun q hq => by rw [h.qlen q (sub q hq), tl]
  refine ⟨fun a ha => ?_, fun q hq => ?_, fun a ha => ?_, fun q hq => ?_, fun a ha => ?_, List.pairwise_append.mpr ⟨h.ord, List.pairwise_singleton _ _, fun a ha b hb => ?_⟩, fun q hq j hj => ?_, fun l hl => ?_, fun a ha => ?_, fun q hq => ?_⟩
  · rcases List.mem_append.mp ha with ha | ha
    · exact h.plen a ha
    · rw [List.mem_singleton] at ha; subst ha; exact tl
  · obtain ⟨r, hr, rfl⟩ := List.mem_map.mp hq
    rw [rawF_len _ _ _ (ql r hr), ql r hr, tl]
  · rcases List.mem_append.mp ha with ha | ha
    · exact fun x hx => (h.pb a ha x hx).mono (by omega)
    · rw [List.mem_singleton] at ha; subst ha
      exact fun x hx => (h.qb top tm x hx).mono (by omega)
  · obtain ⟨r, hr, rfl⟩ := List.mem_map.mp hq
    have := raw_bd (p := p) (ql r hr) (h.qb r (sub r hr)) (h.qb top tm) (by rw [ql r hr, tl]; exact hp)
    exact fun x hx => (this x hx).mono (by omega)
  · rcases List.mem_append.mp ha with ha | ha
    · exact ⟨by have := (h.pc a ha).1; omega, (h.pc a ha).2⟩
    · rw [List.mem_singleton] at ha; subst ha
      exact ⟨Nat.lt_succ_self p, ht, fun j hj => h.qz top tm j hj⟩
  · rw [List.mem_singleton] at hb; subst hb
    exact (h.pc a ha).1
  · obtain ⟨r, hr, rfl⟩ := List.mem_map.mp hq
    rw [fn_raw _ _ _ (ql r hr)]
    by_cases e : j = p
    · rw [e, Int.mul_comm]; omega
    · rw [h.qz r (sub r hr) j (by omega), h.qz top tm j (by omega)]; simp
  · have tin : Sp (PQ (P ++ [(p, top)]) ((Q1 ++ Q2).map fun q => rawF q top p)) (fn top) := .mem (.inl ⟨(p, top), by simp, rfl⟩)
    refine Sp.trans (fun v hv => ?_) (h.ins l hl)
    rcases hv with ⟨a, ha, rfl⟩ | ⟨q, hq, rfl⟩
    · exact .mem (.inl ⟨a, List.mem_append_left _ ha, rfl⟩)
    · by_cases hm : q ∈ Q1 ++ Q2
      · exact sp_unraw (ql q hm) ht (.mem (.inr ⟨_, List.mem_map.mpr ⟨q, hm, rfl⟩, rfl⟩)) tin
      · have : q = top := by
          rcases List.mem_append.mp hq with hq | hq
          · exact absurd (List.mem_append_left _ hq) hm
          · rcases List.mem_cons.mp hq with e | hq
            · exact e
            · exact absurd (List.mem_append_right _ hq) hm
        rw [this]; exact tin
  · rcases List.mem_append.mp ha with ha | ha
    · exact h.outp a ha
    · rw [List.mem_singleton] at ha; subst ha; exact h.outq top tm
  · obtain ⟨r, hr, rfl⟩ := List.mem_map.mp hq
    exact sp_raw (ql r hr) (h.outq r (sub r hr)) (h.outq top tm)
theorem Rk.done {n S e : Nat} {lines : List (List Int)} {P : List (Nat × List Int)} {Q : List (List Int)} {F : List (Nat × List Int)} (h : Rk n S lines n P Q) (m : Made n e lines F) : P.length = F.length := by
  have tri : Tri (vecs P) := by
    refine ⟨?_, fun a ha => ?_⟩
    · rw [List.pairwise_map]
      exact h.ord.imp_of_mem fun {a b} ha hb hab => (h.pc b hb).2.2 a.1 hab
    · obtain ⟨b, hb, rfl⟩ := List.mem_map.mp ha
      exact (h.pc b hb).2.1
  have zq : ∀ q ∈ Q, fn q = fun _ => 0 := fun q hq => by
    funext j
    by_cases hj : j < n
    · exact h.qz q hq j hj
    · exact fn_out (by rw [h.qlen q hq]; omega)
  have toP : ∀ l ∈ lines, Sp (rowsOf (vecs P)) (fn l) := fun l hl => by
    refine Sp.trans (fun v hv => ?_) (h.ins l hl)
    rcases hv with ⟨a, ha, rfl⟩ | ⟨q, hq, rfl⟩
    · exact .mem (rowsOf_vecs.mpr ⟨a, ha, rfl⟩)
    · rw [zq q hq]; exact .zero
  have := dim_eq tri m.st.tri (fun a ha => by
    obtain ⟨b, hb, rfl⟩ := List.mem_map.mp ha
    refine Sp.trans (fun v ⟨l, hl, e⟩ => ?_) (h.outp b hb)
    rw [e]; exact m.ins l hl) (fun a ha => by
    obtain ⟨b, hb, rfl⟩ := List.mem_map.mp ha
    refine Sp.trans (fun v ⟨l, hl, e⟩ => ?_) (m.out b hb)
    rw [e]; exact toP l hl)
  simpa using this
end EN

/-! FM: list(reversed(x)), ranges that go down, xs[i] = v -/
namespace FL
open PySem PySem.Spec PyProof.Rows RT
section
variable {prog : Program} {w : World} {A : Around} {E : Value → Shared → Prop} {s : Shared}
theorem list_init_rev {R : Result → Shared → Prop} {it l : Addr} {items : Array Value} (hh : A.handled = none) (hit : s.heap.IsRevIter it l ((items.size : Int) - 1)) (hl : s.heap.IsList l items) (hne : l ≠ it) (hn : items.size ≤ sizeLine)
    (S : Addr) (hSi : S ≠ it) (hSl : S ≠ l) (hS : s.heap.get? S = some { cls := .type "list", data := .seq #[] })
    (hR : ∀ h' tk acc' c', (∀ b o, b ≠ S → b ≠ it → s.heap.get? b = some o → h'.get? b = some o) → h'.get? S = some { cls := .type "list", dict := none, data := .seq acc' c', slots := #[] } →
      ItemsOf (fun i v => items[items.size - 1 - i]? = some v) acc' items.size → R (.ok (.ret .none)) { s with heap := h', toks := tk }) :
    wpAny (model prog w) A.in1 (Builtin.«list.__init__» ⟨[.ref S, .ref it], []⟩)
      (fun fin s' => match fin with | .done f => R (.ok f) s' | .again c' => c'.quiet = true ∧ codeAny (model prog w) A c' R s') (fun e s' => R (.error e) s') s := by
  have W := (Walks.listRev (prog := prog) (w := w) (A := A.in1) hh it l hne items).toS
  have hSf : S ∉ [it, l] := by simp only [List.mem_cons, List.not_mem_nil, or_false, not_or]; exact ⟨hSi, hSl⟩
  show wpAny _ _ (do let old ← Builtin.List.listItems (.ref S); Builtin.List.listUpdate (.ref S) (fun _ => #[]); letGo old.toList.reverse; Builtin.List.listExtendWith (.ref S) (.ref it) .none) _ _ s
  refine wpAny_bind ?_
  unfold Builtin.List.listItems
  refine wpAny_bind (wpAny_seqItems hS rfl (wpAny_pure ?_))
  show wpAny _ _ (updateSeq S (fun _ => #[]) >>= fun _ => letGo (#[] : Array Value).toList.reverse >>= fun _ => Builtin.List.listExtendWith (.ref S) (.ref it) .none) _ _ s
  refine wpAny_bind (wpAny_updateSeq hS rfl ?_)
  have hS₂ := Heap.get?_update_self (Obj.mapSeq (fun _ => (#[] : Array Value))) hS rfl
  have oth : ∀ b o, b ≠ S → s.heap.get? b = some o → (s.heap.update S (Obj.mapSeq (fun _ => (#[] : Array Value)))).get? b = some o :=
    fun b o hb e => (Heap.get?_update_other _ _ (Ne.symm hb)).trans e
  refine wpAny_bind (wpAny_letGo ?_)
  generalize hh2 : s.heap.update S (Obj.mapSeq (fun _ => (#[] : Array Value))) = h2 at hS₂ oth ⊢
  have hit1 : h2.IsRevIter it l ((items.size : Int) - 1) := hit.at fun o e => oth it o (Ne.symm hSi) e
  have hl1 : h2.IsList l items := let ⟨o, e, r⟩ := hl; ⟨o, oth l o (Ne.symm hSl) e, r⟩
  have hT : ({ s with heap := h2 } : Shared).TypeIs (.ref it) "list_reverseiterator" := Heap.IsRevIter.typeIs (s := { s with heap := h2 }) hit1
  have h1 : Builtin.List.listSameRef (.ref S) (.ref it) = false := by simp [Builtin.List.listSameRef, hSi]
  unfold Builtin.List.listExtendWith
  refine wpAny_bind (wpAny_typeOf hT ?_)
  rw [if_neg (by rw [h1]; decide)]
  refine wpAny_bind (wpAny_pyIter_revIter (s := { s with heap := h2 }) hit1 ?_)
  refine wpAny_bind (wpAny_holding ?_)
  unfold Builtin.List.listLengthHint
  refine wpAny_bind (wpAny_specialOf hT nolen_lri ?_)
  show wpAny _ A.in1 (specialOf (Value.ref it) (Str.ofString "__length_hint__") >>= _) _ _ _
  refine wpAny_bind (wpAny_specialOf hT hint_lri ?_)
  generalize hid : ("list_reverseiterator.__length_hint__" : String) = id0
  wp_delta
  rw [show splitId id0 = some ("list_reverseiterator", "__length_hint__") from by subst hid; decide +kernel]
  subst hid
  refine wpAny_bind (wpAny_isInstance (b := true) hT (by rw [isSubtype_type]; kernel_rfl) ?_)
  refine wpAny_pure ?_
  rw [if_neg (by decide)]
  have e0 : ((items.size : Nat) : Int) - 1 - ((0 : Nat) : Int) = (items.size : Int) - 1 := by omega
  refine wpAny_pure ⟨plainId_quiet F.plain_extend_loop _, codeAny_extend_loopS W hn S hSf _ items.size 0 _ _ _ rfl (Nat.zero_le _) ⟨Nat.zero_le _, by rw [e0]; exact hit1, hl1⟩ hS₂ (ItemsOf.nil _) fun s' acc' c' hm hS' hacc => ?_⟩
  rw [Moved.eq_with hm]
  refine hR s'.heap s'.toks acc' c' (fun b o hb hb2 e => hm.heap b o (fun hmem => ?_) (oth b o hb e)) hS' hacc
  rcases List.mem_cons.mp hmem with e' | hmem
  · exact hb e'
  · exact hb2 (List.mem_singleton.mp hmem)
theorem call_list_rev {it l : Addr} {items : Array Value} {Q : Value → Shared → Prop} (hh : A.handled = none) (hit : s.heap.IsRevIter it l ((items.size : Int) - 1)) (hl : s.heap.IsList l items) (hne : l ≠ it) (hn : items.size ≤ sizeLine)
    (hQ : ∀ h' tk acc' c', (∀ b o, b ≠ it → s.heap.get? b = some o → h'.get? b = some o) → h'.get? s.heap.objs.size = some { cls := .type "list", dict := none, data := .seq acc' c', slots := #[] } →
      ItemsOf (fun i v => items[items.size - 1 - i]? = some v) acc' items.size → Q (.ref s.heap.objs.size) { s with heap := h', toks := tk }) :
    wpAny (model prog w) A (call (.type "list") [.ref it]) Q E s := by
  refine callType_codes (Q₁ := fun obj s₁ => obj = .ref s.heap.objs.size ∧ s₁ = { s with heap := s.heap.push { cls := .type "list", data := .seq #[] } }) F.called_list (F.typeCall_list_1 _) F.entry_list_init
    (code_list_new _ ⟨rfl, rfl⟩) fun obj s₁ h₁ => ?_
  obtain ⟨rfl, rfl⟩ := h₁
  obtain ⟨oi, hoi, _⟩ := id hit
  obtain ⟨ol, hol, _⟩ := id hl
  have hS : (s.heap.push { cls := .type "list", data := .seq #[] }).get? s.heap.objs.size = some { cls := .type "list", data := .seq #[] } := Heap.get?_push_size _ rfl
  refine ⟨⟨_, hS, rfl⟩, F.args_list_init_2 _ _, list_init_rev (A := A.in1) hh (hit.at fun o e => Heap.get?_push_of_some _ e) (hl.push _) hne hn _ (Nat.ne_of_gt (Heap.lt_size hoi)) (Nat.ne_of_gt (Heap.lt_size hol)) hS fun h' tk acc' c' hk hS' hacc => ?_⟩
  exact ⟨rfl, hQ h' tk acc' c' (fun b o hb e => hk b o (Nat.ne_of_lt (Heap.lt_size e)) hb (Heap.get?_push_of_some _ e)) hS' hacc⟩
end
end FL
namespace FL
open PySem PySem.Spec PyProof.Rows L2
open RT (vals_rev)
/-- list(reversed(x)), x a list: a new list -/
def rLR (K : PySem.W.Frag) (v : V) (H1 : Hp) (Q : VK) : Prop := ∃ (a : Addr) (xs : List V), v = .ref a ∧ SqL K H1 a xs ∧ ∀ q, H1 q = none → Q (.ref q) (upd H1 q (.lst xs.reverse))
section
variable {X : Cx}
theorem pe_lstRev {e : Expr} {te : TE} {p p2 pos pos2 : Pos} (hc : X.calm = true) (hg : Gl X "list") (hm : X.mg "list" = none) (hg2 : Gl X "reversed") (hm2 : X.mg "reversed" = none) (he : PE X e te)
    (hs : starEach [e] X.env = (false, eval e X.env) :: starEach [] X.env := by rfl)
    (hs2 : starEach [.Call (.Name "reversed" p2) [e] [] pos2] X.env = (false, eval (.Call (.Name "reversed" p2) [e] [] pos2) X.env) :: starEach [] X.env := by rfl) :
    PE X (.Call (.Name "list" p) [.Call (.Name "reversed" p2) [e] [] pos2] [] pos) (fun σ H Q => te σ H fun x H1 => rLR X.K x H1 Q) := by
  refine ⟨fun pins s σ H Q I h => ?_⟩
  refine Call_ (ld_blt I hg hm boot_list (PyProof.Rows.callWith_type1 (args_cons (Call_ (ld_blt I hg2 hm2 PyProof.Rows.boot_reversed (PyProof.Rows.callWith_type1 (args_cons (thn (he.run pins s σ H _ I h) fun u s1 ⟨v, H1, I1, r1, q1⟩ => args_nil ?_) hs) hs rfl))) hs2) hs2 rfl))
  obtain ⟨a, xs, ev, hq, q⟩ := q1
  subst ev
  obtain rfl : u = Value.ref a := r1
  obtain ⟨its, rv, p', hz⟩ := I1.list hq
  refine call_reversed_list p'.isList (args_nil ?_)
  have k0 : ∀ b o, s1.heap.get? b = some o → (s1.heap.push (revObj a ((its.toArray.size : Int) - 1))).get? b = some o := fun b o e => Heap.get?_push_of_some _ e
  have hl := p'.isList
  obtain ⟨ol, hol, _⟩ := id hl
  have hne : a ≠ s1.heap.objs.size := Nat.ne_of_lt (Heap.lt_size hol)
  have hn : its.toArray.size ≤ sizeLine := by rw [List.size_toArray, ← rv.length]; exact hz
  have hsz : (s1.heap.push (revObj a ((its.toArray.size : Int) - 1))).objs.size = s1.heap.objs.size + 1 := by simp [Heap.push]
  refine call_list_rev (s := { s1 with heap := s1.heap.push (revObj a ((its.toArray.size : Int) - 1)) }) (I1.ok.hd hc) ⟨_, Heap.get?_push_size _ rfl, rfl, rfl⟩ (hl.push _) hne hn fun h' tk acc c' hk e' hi => ?_
  refine ⟨.ref (s1.heap.push (revObj a ((its.toArray.size : Int) - 1))).objs.size, upd H1 (s1.heap.push (revObj a ((its.toArray.size : Int) - 1))).objs.size (.lst xs.reverse), I1.laid (t' := tk) (fun b o e => hk b o (Nat.ne_of_lt (Heap.lt_size e)) (k0 b o e)) (by rw [hsz]; omega) (show ObjOk X.prog X.w _ _ _ (.lst xs.reverse) from ⟨by rw [List.length_reverse]; exact hz, acc.toList, c', vals_rev rv hi, ?_⟩), rfl, q _ (I1.hok.fresh (by rw [hsz]; omega))⟩
  rw [Array.toArray_toList]; exact e'
end
def revD : D → Option Sl
  | .list ds => some (.ol ds.reverse)
  | _ => none
theorem su_rev {K : PySem.W.Frag} : SemU K (rLR K) revD := by
  intro G H x dx s Q sm h e q
  cases dx <;> first | (cases e; done) | skip
  cases e
  obtain ⟨p, vs, rfl, hp, hv⟩ := h.list sm
  exact ⟨p, vs, rfl, .of hp, fun l hl => q _ _ (.newL hl (DtAll.reverse hv))⟩
theorem se_lrev {X : Cx} {e : Expr} {fa : EvF} {p p2 pos pos2 : Pos} (hc : X.calm = true) (hg : Gl X "list") (hm : X.mg "list" = none) (hg2 : Gl X "reversed") (hm2 : X.mg "reversed" = none) (he : SE X e fa)
    (hs : starEach [e] X.env = (false, eval e X.env) :: starEach [] X.env := by rfl)
    (hs2 : starEach [.Call (.Name "reversed" p2) [e] [] pos2] X.env = (false, eval (.Call (.Name "reversed" p2) [e] [] pos2) X.env) :: starEach [] X.env := by rfl) :
    SE X (.Call (.Name "list" p) [.Call (.Name "reversed" p2) [e] [] pos2] [] pos) (fOp1 revD fa) := by
  obtain ⟨t, p', s⟩ := he.ex
  exact ⟨_, pe_lstRev hc hg hm hg2 hm2 p' hs hs2, sem_un su_rev s⟩
@[simp] theorem revD_list (ds : List D) : revD (.list ds) = some (.ol ds.reverse) := eqq rfl

/-! ### range(i, j, -1) -/
def dnD (lo : Int) (n : Nat) : List D := (List.range n).map fun (i : Nat) => PyData.int (lo - i)
theorem itok_dn {K : PySem.W.Frag} {mg : Str → Option Value} {lo : Int} {n : Nat} : ItOk K mg (Itc lo (-1) n) [] (dnD lo n) := by
  intro i G H os L rp _
  have hl : (dnD lo n).length = n := by simp [dnD]
  refine ⟨fun d hd => ?_, fun hi => by rw [hl] at hi; show n ≤ i; omega⟩
  have hi : i < n := by
    have := (List.getElem?_eq_some_iff.mp hd).1
    rw [hl] at this; exact this
  refine ⟨hi, fun y H' hy => ?_⟩
  obtain ⟨rfl, rfl⟩ := hy
  have : d = .int (lo + (i : Int) * (-1)) := by
    unfold dnD at hd
    rw [List.getElem?_map, List.getElem?_range hi] at hd
    cases hd
    show PyData.int (lo - (i : Int)) = _
    rw [Int.mul_neg, Int.mul_one, Int.sub_eq_add_neg]
  subst this
  exact ⟨G, .refl, .int _⟩
def fRng3 (fs : EvA) : EvI := fun env => do
  let (rs, e1) ← fs env
  match rs with
  | [.sh (.int i), .sh (.int j), .sh (.int c)] => if c = -1 ∧ -(2 ^ 62) ≤ i ∧ i < 2 ^ 62 ∧ -(2 ^ 62) ≤ j ∧ j < 2 ^ 62 then .ok ([], dnD i (i - j).toNat, e1) else .bad
  | _ => .bad
theorem si_rng3 {X : Cx} {tg a b c : Expr} {fs : EvA} {p pos : Pos} (hg : Gl X "range") (hm : X.mg "range" = none) (ha : SA X [a, b, c] fs) (hs : starEach [a, b, c] X.env = (false, eval a X.env) :: starEach [b, c] X.env := by rfl) (hpl : (backTo pos (starEach [b, c] X.env)).any (·.1) = false := by rfl) :
    SI X tg (.Call (.Name "range" p) [a, b, c] [] pos) (fRng3 fs) := by
  obtain ⟨t, p', s⟩ := ha.ex
  refine ⟨_, pi_range3 hg hm p' hs hpl, ?_⟩
  intro σ H env l ks ds env' h e R q
  unfold fRng3 at e
  obtain ⟨⟨rs, e1⟩, ea, e⟩ := Res.bind_ok e
  refine s σ H env l rs e1 h ea _ fun vs H1 h1 => ?_
  dsimp only at e
  split at e
  · rename_i i j c
    split at e
    · rename_i hj
      obtain ⟨rfl, hj1, hj2, hj3, hj4⟩ := hj
      cases e
      have : vs = [V.int i, V.int j, V.int (-1)] := HoldA.int1 (ns := [i, j, -1]) h1
      subst this
      exact ⟨i, j, -1, _, rfl, RgC.neg hj1 hj2 hj3 hj4, q _ [] H1 h1.none itok_dn⟩
    · cases e
  · cases e
def rng3C (p : List Sl × Lo) : Res (List Sl × List D × Lo) :=
  match p.1 with
  | [.sh (.int i), .sh (.int j), .sh (.int c)] => if c = -1 ∧ -(2 ^ 62) ≤ i ∧ i < 2 ^ 62 ∧ -(2 ^ 62) ≤ j ∧ j < 2 ^ 62 then .ok ([], dnD i (i - j).toNat, p.2) else .bad
  | _ => .bad
@[simp] theorem rng3C_ev (i j c : Int) (e : Lo) : rng3C ([.sh (.int i), .sh (.int j), .sh (.int c)], e) = if c = -1 ∧ -(2 ^ 62) ≤ i ∧ i < 2 ^ 62 ∧ -(2 ^ 62) ≤ j ∧ j < 2 ^ 62 then .ok ([], dnD i (i - j).toNat, e) else .bad := eqq rfl
@[simp] theorem ev_rng3 (fs : EvA) (env : Lo) : fRng3 fs env = (fs env).bind rng3C := eqq rfl
theorem dn_len (i : Int) (n : Nat) : (dnD i n).length = n := by simp [dnD]
theorem dn_get {lo : Int} {n i : Nat} {d : D} (h : (dnD lo n)[i]? = some d) : i < n ∧ d = .int (lo - (i : Int)) := by
  have hi : i < n := by
    have := (List.getElem?_eq_some_iff.mp h).1
    rwa [dn_len] at this
  have h2 : (dnD lo n)[i]? = some (.int (lo - (i : Int))) := by simp [dnD, hi]
  rw [h2] at h
  injection h with h
  exact ⟨hi, h.symm⟩

/-! ### xs[k] = v of a list of one's own -/
def fStore (i : Nat) (fa fk : EvF) : EvS := fun env => do
  let (r, e1) ← fa env
  let (d, e2) ← Res.ofO (freezeR e1 r)
  match e2[i]? with
  | some (.ol _) => do
    let (rk, e3) ← fk e2
    match rk, e3[i]? with
    | .sh (.int k), some (.ol ds) => do
      let j ← Res.ofO (ixN ds.length k)
      .ok (.nx (e3.set i (.ol (ds.set j d))))
    | _, _ => .bad
  | _ => .bad
theorem sem_store {K : PySem.W.Frag} {mg : Str → Option Value} {ks : List Nat} {i : Nat} {ta tk : TE} {fa fk : EvF} (ha : SemE K mg ta fa) (hk : SemE K mg tk fk) : SemS K mg ks (tAsg ta (gSub (tVar i) tk rSetL)) (fStore i fa fk) := by
  intro σ H env l o h e D post
  unfold fStore at e
  obtain ⟨⟨r, e1⟩, ea, e⟩ := Res.bind_ok e
  obtain ⟨⟨d, e2⟩, ef, e⟩ := Res.bind_ok e
  replace ef := Res.ofO_ok ef
  dsimp only at e
  split at e
  case h_2 => cases e
  rename_i ds0 e0
  obtain ⟨⟨rk, e3⟩, ek, e⟩ := Res.bind_ok e
  dsimp only at e
  split at e
  case h_2 => cases e
  rename_i k ds e4
  obtain ⟨j, ej, e⟩ := Res.bind_ok e
  replace ej := Res.ofO_ok ej
  cases e
  refine ha σ H env l r e1 h ea _ fun v H1 h1 => ?_
  have h2 := h1.freeze ef
  obtain ⟨ov, eσ, rp0⟩ := h2.hold.take e0
  obtain ⟨G0, os0, rp0⟩ := rp0
  obtain ⟨o0, ri0⟩ := rp0.rl.mem List.mem_cons_self
  obtain ⟨p, ws0, rfl, _, hp0, ha0⟩ := ri0.ol_inv
  refine ⟨.ref p, eσ, ?_⟩
  refine hk σ H1 e2 _ _ e3 h2.hold ek _ fun y H2 h3 => ?_
  obtain ⟨ov', eσ', rp⟩ := h3.hold.take e4
  rw [eσ] at eσ'; cases eσ'
  obtain ⟨G, os, rp⟩ := rp
  obtain ⟨o1, ri⟩ := rp.rl.mem List.mem_cons_self
  obtain ⟨p', ws, ep, _, hp, hw⟩ := ri.ol_inv
  cases ep
  obtain ⟨v2, q2, dv⟩ := rp.shOf (ov := some v) (d := d) (List.mem_cons_of_mem _ (List.mem_append_right _ (List.mem_cons_of_mem _ List.mem_cons_self)))
  cases q2
  obtain ⟨y2, q3, dy⟩ := rp.shOf (ov := some y) (d := .int k) (List.mem_cons_of_mem _ (List.mem_append_right _ List.mem_cons_self))
  cases q3
  cases dy
  refine ⟨p, ws, k, j, rfl, rfl, hp, by rw [DtAll.length hw]; exact ej, ?_⟩
  refine post σ _ ⟨by rw [List.length_set]; exact h3.len, ?_⟩ .refl
  have rp2 := rp.mut (s' := .ol (ds.set j d)) (o := .lst (ws.set j v)) ol_own fun H' e => .bx (.ol e (DtAll.set dv j hw))
  have rp4 := Rep.put ⟨_, _, rp2⟩ (by rw [List.length_set]; exact h3.len) eσ
  rw [List.set_set] at rp4
  exact Rep.dropM (M := [_, _]) rp4
theorem ss_store {X : Cx} {ks : List Nat} {i : Nat} {x : Str} {e k : Expr} {fa fk : EvF} {npos spos pos : Pos} (hN : X.N[i]? = some x) (hv : Vis X.env.scope x) (he : SE X e fa) (hk : SE X k fk)
    (hd : (x == ("__debug__" : Str)) = false := by decide) (hcd : (x == ("__classdict__" : Str)) = false := by decide)
    (hs : swapsWithSole [.Subscript (.Name x npos) k spos] e pos.line X.env = pure false := by rfl) (hw : swappedStores [.Subscript (.Name x npos) k spos] e X.env = pure none := by rfl)
    (h1 : (assignEach [.Subscript (.Name x npos) k spos] X.env).map (·.2) = [assign (.Subscript (.Name x npos) k spos) X.env] := by rfl)
    (hag : ∀ v, assign (.Subscript (.Name x npos) k spos) X.env v = (do
      let ov ← holding [v] (eval (.Name x npos) X.env)
      let iv ← holding [v, ov] (eval k X.env)
      standAt spos
      holding [v, ov, iv] (setItem ov iv v)
      release [v, ov, iv] []) := by intro _; rfl) :
    SS X ks (.Assign [.Subscript (.Name x npos) k spos] e pos) (fStore i fa fk) := by
  obtain ⟨t, p, s⟩ := he.ex
  obtain ⟨t2, p2, s2⟩ := hk.ex
  exact ⟨_, ps_asg p (pg_sub (pe_var hN hv hd hcd) p2 set_list hag) hs hw h1, sem_store s s2⟩
/-! ### how these are reckoned -/
def storV (i : Nat) (d : D) (e : Lo) : Sl → Option Sl → Res Out
  | .sh (.int k), some (.ol ds) => match ixN ds.length k with
    | some j => .ok (.nx (e.set i (.ol (ds.set j d))))
    | none => .bad
  | _, _ => .bad
theorem storV_at {i : Nat} {d : D} {e : Lo} {k : Int} {ds : List D} {j : Nat} (h : ixN ds.length k = some j) : storV i d e (.sh (.int k)) (some (.ol ds)) = .ok (.nx (e.set i (.ol (ds.set j d)))) := by
  show (match ixN ds.length k with | some j => Res.ok (Out.nx (e.set i (.ol (ds.set j d)))) | none => .bad) = _
  rw [h]
theorem ixN_nat {n k : Nat} (h : k < n) : ixN n (k : Int) = some k := by
  unfold ixN
  rw [if_pos (by omega), if_pos (by omega)]
  simp
def storC2 (i : Nat) (d : D) (p : Sl × Lo) : Res Out := storV i d p.2 p.1 p.2[i]?
@[simp] theorem storC2_ev (i : Nat) (d : D) (r : Sl) (e : Lo) : storC2 i d (r, e) = storV i d e r e[i]? := eqq rfl
def storS (i : Nat) (fk : EvF) (d : D) (e : Lo) : Option Sl → Res Out
  | some (.ol _) => (fk e).bind (storC2 i d)
  | _ => .bad
@[simp] theorem storS_ol (i : Nat) (fk : EvF) (d : D) (e : Lo) (ds : List D) : storS i fk d e (some (.ol ds)) = (fk e).bind (storC2 i d) := eqq rfl
def storF (i : Nat) (fk : EvF) : Option (D × Lo) → Res Out
  | some (d, e) => storS i fk d e e[i]?
  | none => .bad
@[simp] theorem storF_some (i : Nat) (fk : EvF) (d : D) (e : Lo) : storF i fk (some (d, e)) = storS i fk d e e[i]? := eqq rfl
def storC1 (i : Nat) (fk : EvF) (p : Sl × Lo) : Res Out := storF i fk (freezeR p.2 p.1)
@[simp] theorem storC1_ev (i : Nat) (fk : EvF) (r : Sl) (e : Lo) : storC1 i fk (r, e) = storF i fk (freezeR e r) := eqq rfl
@[simp] theorem ev_store (i : Nat) (fa fk : EvF) (env : Lo) : fStore i fa fk env = (fa env).bind (storC1 i fk) := by
  show (fa env).bind _ = (fa env).bind _
  congr 1
  funext ⟨r, e1⟩
  show (Res.ofO (freezeR e1 r)).bind _ = storF i fk (freezeR e1 r)
  cases freezeR e1 r with
  | none => rfl
  | some p =>
    obtain ⟨d, e2⟩ := p
    have key2 : ∀ (rk : Sl) (e3 : Lo) (o : Option Sl), (match rk, o with | .sh (.int k), some (.ol ds) => (do let j ← Res.ofO (ixN ds.length k); Res.ok (Out.nx (e3.set i (.ol (ds.set j d))))) | _, _ => Res.bad) = storV i d e3 rk o := by
      intro rk e3 o
      unfold storV
      split
      · rename_i k ds
        cases ixN ds.length k <;> rfl
      · first
        | rfl
        | (split
           · rename_i h _ _; exact absurd rfl (h _ _ rfl)
           · rfl)
    have key : ∀ o : Option Sl, o = e2[i]? → (match o with | some (.ol _) => (do let (rk, e3) ← fk e2; match rk, e3[i]? with | .sh (.int k), some (.ol ds) => (do let j ← Res.ofO (ixN ds.length k); Res.ok (Out.nx (e3.set i (.ol (ds.set j d))))) | _, _ => Res.bad) | _ => Res.bad) = storS i fk d e2 o := by
      intro o ho
      cases o with
      | none => rfl
      | some s =>
        cases s <;> first | rfl | skip
        show (fk e2).bind _ = (fk e2).bind _
        congr 1
        funext ⟨rk, e3⟩
        exact key2 rk e3 _
    exact key _ rfl
end FL

/-! FN: walks over a slot's own list that stays its own -/
namespace FL
open PySem PySem.Spec PyProof.Rows L2
def SemIP (K : PySem.W.Frag) (mg : Str → Option Value) (w : TI) (f : EvI) (P : L2.St → List V → Prop) : Prop :=
  ∀ (σ : L2.St) (H : Hp) (env : Lo) (l : List Item) (ks : List Sl) (ds : List D) (env' : Lo), Hold K mg H σ env l → f env = .ok (ks, ds, env') → ∀ R : It → Hp → Prop,
    (∀ J vs H', HoldA K mg H' σ env' l vs ks → ItOk K mg J ((vs.map some).zip ks) ds → P σ vs → R J H') → w σ H R
theorem sem_lcK {K : PySem.W.Frag} {P : L2.St → List V → Prop} {mg : Str → Option Value} {w : TI} {fi : EvI} {g : TG} {tg : Tgt} {tt : TT} {ft : EvT} {fe : EvF} {own : List Nat} (si : SemIP K mg w fi P) (sg : SemG K mg g tg) (st : SemT K mg tt ft) (ho : ∀ k ∈ tg.slots, k ∈ own) :
    ∀ (σ : L2.St) (H : Hp) (env : Lo) (l : List Item) (r : Sl) (env' : Lo), Hold K mg H σ env l → fLc fi tg ft fe own env = .ok (r, env') → ∀ Q : VK,
      (∀ v H' vs ks ds e1, fi env = .ok (ks, ds, e1) → P σ vs → HoldV K mg H' σ env' ((vs.map some).zip ks ++ l) v r → Q v H') → tLc w g tt (tCan K mg fe) own σ H Q := by
  intro σ H env l r env' h e Q q
  unfold fLc at e
  obtain ⟨⟨ks, ds, e1⟩, ea, e⟩ := Res.bind_ok e
  dsimp only at e
  split at e
  · rename_i hown
    obtain ⟨⟨accF, e2⟩, eb, e⟩ := Res.bind_ok e
    cases e
    refine si σ H env l ks ds e1 h ea _ fun J vs H1 h1 ok hP => fun Dd hD => ?_
    -- the new list
    obtain ⟨G1, os1, rp1⟩ := h1.rep
    have h2 : Hold K mg (upd H1 Dd (.lst [])) σ e1 ((some (.ref Dd), .ol []) :: ((vs.map some).zip ks ++ l)) := ⟨h1.len, by
      have := Rp.newOl (K := K) (mg := mg) rp1 hD (.nil)
      refine Rep.perm ⟨_, _, this⟩ ?_
      refine List.Perm.trans (List.Perm.cons _ ?_) perm_mid
      rw [← List.append_assoc, ← List.append_assoc]
      exact List.perm_append_comm.append_right l⟩
    obtain ⟨sv, h3, back⟩ := h2.aside own hown
    refine ⟨fun i m H' => m + i = ds.length ∧ ∃ env3 acc, Hold K mg H' (L2.wipe σ own) env3 (sv ++ ((some (.ref Dd), .ol acc) :: ((vs.map some).zip ks ++ l))) ∧ compF tg ft fe own (ds.drop i) acc env3 = .ok (accF, e2), ⟨ds.length, rfl, _, [], h3, eb⟩, ?_⟩
    rintro i m H4 ⟨hm, env4, acc, h4, e4⟩
    obtain ⟨G4, os4, rp4⟩ := h4.rep
    obtain ⟨okg, oks⟩ := ok i G4 H4 os4 _ rp4 fun it hi => List.mem_append_right _ (List.mem_append_right _ (List.mem_cons_of_mem _ (List.mem_append_left _ hi)))
    by_cases hi : i < ds.length
    · have hd : ds[i]? = some ds[i] := List.getElem?_eq_getElem hi
      obtain ⟨go, yl⟩ := okg _ hd
      rw [List.drop_eq_getElem_cons hi] at e4
      unfold compF at e4
      obtain ⟨e5, ec, e4⟩ := Res.bind_ok e4
      replace ec := Res.ofO_ok ec
      obtain ⟨⟨b, e6⟩, et, e4⟩ := Res.bind_ok e4
      refine .inr ⟨go, fun H' => ∃ env3 acc, Hold K mg H' (L2.wipe σ own) env3 (sv ++ ((some (.ref Dd), .ol acc) :: ((vs.map some).zip ks ++ l))) ∧ compF tg ft fe own (ds.drop (i + 1)) acc env3 = .ok (accF, e2), fun H' q => ⟨m - 1, by omega, by omega, q⟩, fun x H5 hy => ?_⟩
      obtain ⟨G', gr, dd⟩ := yl x H5 hy
      have h5 : Hold K mg H5 (L2.wipe σ own) env4 ((some x, .sh ds[i]) :: (sv ++ ((some (.ref Dd), .ol acc) :: ((vs.map some).zip ks ++ l)))) := ⟨h4.len, Rep.perm ⟨_, _, (rp4.grow gr).sh dd⟩ perm_mid⟩
      refine sg _ H5 env4 e5 _ x _ h5 ec _ fun σ2 h6 off => ?_
      have hw : L2.wipe σ2 own = L2.wipe σ own := wipe_off off ho
      refine ⟨hw, ?_⟩
      refine st σ2 H5 e5 _ b e6 h6 et _ fun H6 h7 => ?_
      dsimp only at e4
      cases b with
      | false =>
        rw [if_neg Bool.false_ne_true] at e4
        refine iteF ⟨_, acc, ?_, e4⟩
        have := h7.wipe own
        rw [hw] at this
        exact this
      | true =>
        rw [if_pos rfl] at e4
        obtain ⟨⟨r, e7⟩, ef, e4⟩ := Res.bind_ok e4
        obtain ⟨⟨d', e8⟩, eg, e4⟩ := Res.bind_ok e4
        replace eg := Res.ofO_ok eg
        dsimp only at e4
        split at e4
        · rename_i hz
          refine iteT ⟨e6, _, r, e7, h7, ef, fun y H7 h8 => ?_⟩
          have h9 := h8.freeze eg
          -- the list at Dd
          have p1 : ((some y, Sl.sh d') :: (σ2.zip e8 ++ (sv ++ ((some (V.ref Dd), Sl.ol acc) :: ((vs.map some).zip ks ++ l))))).Perm ((some (V.ref Dd), Sl.ol acc) :: ((some y, Sl.sh d') :: (σ2.zip e8 ++ (sv ++ ((vs.map some).zip ks ++ l))))) := by
            refine List.Perm.trans (List.Perm.cons _ ?_) (.swap _ _ _)
            rw [← List.append_assoc, ← List.append_assoc]
            exact perm_mid.symm
          obtain ⟨G8, os8, rp8⟩ := h9.rep
          obtain ⟨os9, rp9⟩ := rp8.perm p1
          obtain ⟨o, ri⟩ := rp9.rl.mem List.mem_cons_self
          obtain ⟨p, ws, ev, _, hp, ha⟩ := ri.ol_inv
          cases ev
          obtain ⟨v', ev, dy⟩ := rp9.shOf (List.mem_cons_of_mem _ List.mem_cons_self)
          cases ev
          refine ⟨ws, hp, sizeL' (by rw [ha.length]; exact hz), wipeE e8 own, acc ++ [d'], ?_, e4⟩
          have rp10 := rp9.mut (s' := .ol (acc ++ [d'])) (o := .lst (ws ++ [y])) ol_own fun H' e => .bx (.ol e (ha.append (.one dy)))
          have h10 : Hold K mg (upd H7 Dd (.lst (ws ++ [y]))) σ2 e8 (sv ++ ((some (V.ref Dd), Sl.ol (acc ++ [d'])) :: ((vs.map some).zip ks ++ l))) := ⟨h9.len, by
            refine (Rep.tail (Rep.perm ⟨_, _, rp10⟩ (.swap _ _ _))).perm ?_
            exact perm_mid.trans (List.Perm.append_left _ perm_mid)⟩
          have := h10.wipe own
          rw [hw] at this
          exact this
        · cases e4
    · rw [List.drop_eq_nil_of_le (by omega)] at e4
      cases e4
      refine .inl ⟨oks (by omega), q _ H4 vs ks ds e1 ea hP ?_⟩
      have hb := back H4 _ _ h4
      refine ⟨hb.len, ?_, fun _ z => by cases z⟩
      have : Rep K mg H4 ((some (V.ref Dd), Sl.ol accF) :: (σ.zip (restoreE e1 own e2) ++ ((vs.map some).zip ks ++ l))) := hb.rep.perm perm_mid.symm
      exact this
  · cases e

def fTakeI (i : Nat) : EvI := fun env => match env[i]? with
  | some (.ol ds) => .ok ([.ol ds], ds, env.set i .no)
  | _ => .bad
theorem semip_take {K : PySem.W.Frag} {mg : Str → Option Value} {i : Nat} : SemIP K mg (iSeq K (tVar i)) (fTakeI i) (fun σ vs => ∃ v, vs = [v] ∧ σ[i]? = some (some v)) := by
  intro σ H env l ks ds env' h e R q
  unfold fTakeI at e
  split at e
  case h_2 => cases e
  rename_i ds' e0
  cases e
  obtain ⟨ov, eσ, rp0⟩ := h.take e0
  obtain ⟨G0, os0, rp⟩ := id rp0
  obtain ⟨o0, ri0⟩ := rp.rl.mem List.mem_cons_self
  obtain ⟨p, ws, rfl, _, hp, ha⟩ := ri0.ol_inv
  refine ⟨.ref p, eσ, .inl ⟨p, rfl, ⟨ws, .of hp⟩, q _ [.ref p] H ⟨by rw [List.length_set]; exact h.len, rp0, rfl, fun k v r e1 e2 => ?_⟩ (itok_list rfl (.inr rfl)) ⟨_, rfl, eσ⟩⟩⟩
  cases k with
  | zero => simp at e1 e2; subst e2; exact fun _ z => by cases z
  | succ k => simp at e1
def fLcB (i : Nat) (tg : Tgt) (ft : EvT) (fe : EvF) (own : List Nat) : EvF := fun env => match env[i]? with
  | some (.ol ds) => do
    let (r, e) ← fLc (fTakeI i) tg ft fe own env
    .ok (r, e.set i (.ol ds))
  | _ => fLc (fIter (fVar i)) tg ft fe own env
theorem fLc_ol {fi : EvI} {tg : Tgt} {ft : EvT} {fe : EvF} {own : List Nat} {env env' : Lo} {r : Sl} (h : fLc fi tg ft fe own env = .ok (r, env')) : ∃ ds, r = .ol ds := by
  unfold fLc at h
  obtain ⟨⟨ks, ds, e1⟩, ea, h⟩ := Res.bind_ok h
  dsimp only at h
  split at h
  · obtain ⟨⟨acc, e2⟩, eb, h⟩ := Res.bind_ok h
    cases h
    exact ⟨_, rfl⟩
  · cases h
theorem sem_iseq {K : PySem.W.Frag} {mg : Str → Option Value} {te : TE} {fa : EvF} (s : SemE K mg te fa) : SemI K mg (iSeq K te) (fIter fa) := by
  intro σ H env l ks ds env' h e R q
  unfold fIter at e
  obtain ⟨⟨r, e1⟩, ea, e⟩ := Res.bind_ok e
  obtain ⟨⟨d, e2⟩, eb, e⟩ := Res.bind_ok e
  replace eb := Res.ofO_ok eb
  refine s σ H env l r e1 h ea _ fun v H1 h1 => ?_
  have h2 := h1.freeze eb
  obtain ⟨G, os, rp⟩ := h2.rep
  obtain ⟨v', ev, dd⟩ := rp.shOf List.mem_cons_self
  cases ev
  cases dd <;> first | (cases e; done) | skip
  case lst a xs ds' hs ha =>
    cases e
    exact .inl ⟨a, rfl, ⟨xs, .of (rp.same _ _ hs)⟩, q _ [_] H1 h2.toA (itok_list rfl (.inl rfl))⟩
  case tup a xs ds' hs ha =>
    cases e
    exact .inr ⟨a, rfl, ⟨xs, .of (rp.same _ _ hs)⟩, q _ [_] H1 h2.toA (itok_tup rfl)⟩
theorem sem_lcB {K : PySem.W.Frag} {mg : Str → Option Value} {i : Nat} {g : TG} {tg : Tgt} {tt : TT} {ft : EvT} {fe : EvF} {own : List Nat} (sg : SemG K mg g tg) (st : SemT K mg tt ft) (ho : ∀ k ∈ tg.slots, k ∈ own) :
    SemE K mg (tLc (iSeq K (tVar i)) g tt (tCan K mg fe) own) (fLcB i tg ft fe own) := by
  intro σ H env l r env' h e Q q
  unfold fLcB at e
  split at e
  · rename_i ds e0
    obtain ⟨⟨r1, e1⟩, ea, e⟩ := Res.bind_ok e
    cases e
    refine sem_lcK semip_take sg st ho σ H env l r e1 h ea Q fun v H' vs ks ds' e2 et hP hv => ?_
    obtain ⟨v0, rfl, eσ⟩ := hP
    unfold fTakeI at et
    rw [e0] at et
    cases et
    obtain ⟨dd, rfl⟩ := fLc_ol ea
    refine q v H' ⟨by rw [List.length_set]; exact hv.len, ?_, fun _ z => by cases z⟩
    have h1 : Rep K mg H' ((some v0, Sl.ol ds) :: (σ.zip e1 ++ ((some v, Sl.ol dd) :: l))) := by
      refine hv.rep.perm ?_
      refine List.Perm.trans (List.Perm.cons _ (perm_mid (A := σ.zip e1) (a := (some v0, Sl.ol ds)) (B := l)).symm) ?_
      exact (List.Perm.swap _ _ _).trans (List.Perm.cons _ perm_mid)
    have h2 := Rep.put h1 hv.len eσ
    exact h2.perm perm_mid.symm
  · exact sem_lc (sem_iseq sem_var) sg st ho σ H env l r env' h e Q q
/-- a loop over a slot's own list -/
def putB (i : Nat) (ds : List D) : Out → Out
  | .nx e => .nx (e.set i (.ol ds))
  | .bk e => .bk (e.set i (.ol ds))
  | .ct e => .ct (e.set i (.ol ds))
  | .rt r e => .rt r (e.set i (.ol ds))
def fForB (i : Nat) (tg : Tgt) (b : EvS) : EvS := fun env => match env[i]? with
  | some (.ol ds) => do
    let o ← loopF tg b ds (env.set i .no)
    .ok (putB i ds o)
  | _ => fFor (fIter (fVar i)) tg b env
theorem PostS.weak {K : PySem.W.Frag} {mg : Str → Option Value} {D : Ends} {i : Nat} {ks : List Nat} {σ : L2.St} {l : List Item} {o : Out} (p : PostS K mg D ks σ l o) : PostS K mg D (i :: ks) σ l o := by
  have w : ∀ {σ' : L2.St}, KeepEq (i :: ks) σ σ' → KeepEq ks σ σ' := fun h k hk => h k (List.mem_cons_of_mem _ hk)
  cases o with
  | nx e => exact fun σ' H' h q => p σ' H' h (w q)
  | bk e => exact fun σ' H' h q => p σ' H' h (w q)
  | ct e => exact fun σ' H' h q => p σ' H' h (w q)
  | rt r e => exact fun v σ' H' h n q => p v σ' H' h n (w q)
section
variable {X : Cx} {ks : List Nat} {tg : Expr} {body : List Stmt} {b : EvS} {pos npos : Pos} {g : TG} {tt : Tgt} {i : Nat} {x : Str}
theorem ss_forB (hp : PassesOwn (model X.prog X.w) X.A X.env X.xe) (hc : X.calm = true) (hN : X.N[i]? = some x) (hv : Vis X.env.scope x) (hg : PG X tg g) (sg : SemG X.K X.mg g tt) (hb : SSs X (i :: ks) body b) (hk : ∀ k ∈ i :: ks, k ∉ tt.slots := by decide)
    (hd : (x == ("__debug__" : Str)) = false := by decide) (hcd : (x == ("__classdict__" : Str)) = false := by decide)
    (hs : ∀ y, foldedSetIterable (.Name x npos) X.env y = pure y := by intro _; rfl) : SS X ks (.For tg (.Name x npos) body [] pos) (fForB i tt b) := by
  obtain ⟨t, p, s⟩ := hb.ex
  refine ⟨_, ps_for hp hc (pi_seq (pe_var hN hv hd hcd)) hg p hs, ?_⟩
  intro σ H env l o h e D post
  unfold fForB at e
  split at e
  · rename_i ds e0
    obtain ⟨o1, ea, e⟩ := Res.bind_ok e
    cases e
    refine semip_take σ H env l [.ol ds] ds (env.set i .no) h (by unfold fTakeI; rw [e0]) _ fun J vs H1 h1 ok hP => ?_
    obtain ⟨v0, rfl, eσ⟩ := hP
    refine sem_loop (l := l) sg s hk ok ⟨h1.len, ?_⟩ ea ?_
    · refine h1.rep.perm ?_
      rw [← List.append_assoc, ← List.append_assoc]
      exact List.perm_append_comm.append_right l
    · have key : ∀ {σ' : L2.St} {H' : Hp} {e' : Lo} {l' : List Item}, Hold X.K X.mg H' σ' e' ((some v0, Sl.ol ds) :: l') → KeepEq (i :: ks) σ σ' → Hold X.K X.mg H' σ' (e'.set i (.ol ds)) l' := by
        intro σ' H' e' l' hh kk
        have eσ' : σ'[i]? = some (some v0) := by rw [kk i List.mem_cons_self]; exact eσ
        exact ⟨by rw [List.length_set]; exact hh.len, Rep.put (hh.rep.perm perm_mid.symm) hh.len eσ'⟩
      have w : ∀ {σ' : L2.St}, KeepEq (i :: ks) σ σ' → KeepEq ks σ σ' := fun h k hk => h k (List.mem_cons_of_mem _ hk)
      cases o1 with
      | nx e1 => exact fun σ' H' h q => post σ' H' (key h q) (w q)
      | bk e1 => exact fun σ' H' h q => post σ' H' (key h q) (w q)
      | ct e1 => exact fun σ' H' h q => post σ' H' (key h q) (w q)
      | rt r e1 =>
        intro v σ' H' hv n q
        have h1 : Hold X.K X.mg H' σ' e1 ((some v0, Sl.ol ds) :: ((some v, r) :: l)) := ⟨hv.len, by
          refine hv.rep.perm ?_
          refine perm_mid.trans (List.Perm.append_left _ ?_)
          exact .swap _ _ _⟩
        have h2 := key h1 q
        exact post v σ' H' ⟨h2.len, h2.rep.perm perm_mid.symm, fun j z => by subst z; cases n⟩ n (w q)
  · unfold fFor at e
    obtain ⟨⟨ksl, ds, e1⟩, ea, e⟩ := Res.bind_ok e
    refine sem_iseq sem_var σ H env l ksl ds e1 h ea _ fun J vs H1 h1 ok => ?_
    refine sem_loop sg s hk ok ⟨h1.len, ?_⟩ e post.weak.more
    refine h1.rep.perm ?_
    rw [← List.append_assoc, ← List.append_assoc]
    exact List.perm_append_comm.append_right l
end
section
variable {X : Cx} {elt tg : Expr} {ifs : List Expr} {scope : Scope} {own : List (Str × Nat)} {pos spos py npos : Pos} {g : TG} {tt : Tgt} {ft : EvT} {fe : EvF} {i j : Nat} {x y : Str} {ks : List Nat}
theorem se_lcB (hc : X.calm = true) (hN : X.N.Nodup) (hi : X.N[j]? = some x) (hv : Vis X.env.scope x) (ok : BlkOk X.N X.env.scope scope own) (sg : SemG X.K X.mg g tt) (ho : ∀ k ∈ tt.slots, k ∈ own.map (·.2))
    (hg : ∀ (s : Shared) (H : Hp) (C : Addr) (cl : List (Str × Addr)) (fp : List Addr), PG (X.blk s H scope (compEnvC scope cl C X.env) fp) tg g) (ht : ∀ (s : Shared) (H : Hp) (C : Addr) (cl : List (Str × Addr)) (fp : List Addr), STs (X.blk s H scope (compEnvC scope cl C X.env) fp) ifs ft)
    (he : ∀ (s : Shared) (H : Hp) (C : Addr) (cl : List (Str × Addr)) (fp : List Addr), SE (X.blk s H scope (compEnvC scope cl C X.env) fp) elt fe) (hd : (x == ("__debug__" : Str)) = false := by decide) (hcd : (x == ("__classdict__" : Str)) = false := by decide)
    (hs : ∀ z, foldedSetIterable (.Name x npos) X.env z = pure z := by intro _; rfl) :
    SE X (.ListComp elt [⟨tg, .Name x npos, ifs, 0⟩] scope pos) (fLcB j tt ft fe (own.map (·.2))) :=
  ⟨_, pe_lc hc hN (pi_seq (pe_var hi hv hd hcd)) ok hg (fun s H C cl fp => (ht s H C cl fp).pts) (fun s H C cl fp => (he s H C cl fp).canon) hs, sem_lcB sg semt_can ho⟩
theorem ss_setLcB (hc : X.calm = true) (hN : X.N.Nodup) (hy : X.N[i]? = some y) (hyl : X.env.scope.names.lookup y = some .local)
    (hsw : swapsWith (.ListComp elt [⟨tg, .Name x npos, ifs, 0⟩] scope pos) (some (.Name y py)) spos.line X.env = pure true) (hi : X.N[j]? = some x) (hv : Vis X.env.scope x) (ok : BlkOk X.N X.env.scope scope own) (sg : SemG X.K X.mg g tt) (ho : ∀ k ∈ tt.slots, k ∈ own.map (·.2))
    (hg : ∀ (s : Shared) (H : Hp) (C : Addr) (cl : List (Str × Addr)) (fp : List Addr), PG (X.blk s H scope (compEnvC scope cl C X.env) fp) tg g) (ht : ∀ (s : Shared) (H : Hp) (C : Addr) (cl : List (Str × Addr)) (fp : List Addr), STs (X.blk s H scope (compEnvC scope cl C X.env) fp) ifs ft)
    (he : ∀ (s : Shared) (H : Hp) (C : Addr) (cl : List (Str × Addr)) (fp : List Addr), SE (X.blk s H scope (compEnvC scope cl C X.env) fp) elt fe) (hk : i ∉ ks := by decide) (hd : (x == ("__debug__" : Str)) = false := by decide) (hcd : (x == ("__classdict__" : Str)) = false := by decide)
    (hs : ∀ z, foldedSetIterable (.Name x npos) X.env z = pure z := by intro _; rfl) :
    SS X ks (.Assign [.Name y py] (.ListComp elt [⟨tg, .Name x npos, ifs, 0⟩] scope pos) spos) (fAsg i (fLcB j tt ft fe (own.map (·.2)))) :=
  ⟨_, ps_setLc hc hN hy hyl hsw (pi_seq (pe_var hi hv hd hcd)) ok hg (fun s H C cl fp => (ht s H C cl fp).pts) (fun s H C cl fp => (he s H C cl fp).canon) hs, sem_asg (sem_lcB sg semt_can ho) hk⟩
end
/-! ### how these are reckoned -/
def putC (i : Nat) (ds : List D) (o : Out) : Res Out := .ok (putB i ds o)
@[simp] theorem putC_ev (i : Nat) (ds : List D) (o : Out) : putC i ds o = .ok (putB i ds o) := eqq rfl
@[simp] theorem putB_nx (i : Nat) (ds : List D) (e : Lo) : putB i ds (.nx e) = .nx (e.set i (.ol ds)) := eqq rfl
@[simp] theorem putB_rt (i : Nat) (ds : List D) (r : Sl) (e : Lo) : putB i ds (.rt r e) = .rt r (e.set i (.ol ds)) := eqq rfl
def forBC (i : Nat) (tg : Tgt) (b : EvS) (env : Lo) : Option Sl → Res Out
  | some (.ol ds) => (loopF tg b ds (env.set i .no)).bind (putC i ds)
  | _ => fFor (fIter (fVar i)) tg b env
@[simp] theorem forBC_ol (i : Nat) (tg : Tgt) (b : EvS) (env : Lo) (ds : List D) : forBC i tg b env (some (.ol ds)) = (loopF tg b ds (env.set i .no)).bind (putC i ds) := eqq rfl
@[simp] theorem forBC_sh (i : Nat) (tg : Tgt) (b : EvS) (env : Lo) (d : D) : forBC i tg b env (some (.sh d)) = fFor (fIter (fVar i)) tg b env := eqq rfl
@[simp] theorem ev_forB (i : Nat) (tg : Tgt) (b : EvS) (env : Lo) : fForB i tg b env = forBC i tg b env env[i]? := by
  have key : ∀ o : Option Sl, (match o with | some (.ol ds) => (do let o ← loopF tg b ds (env.set i .no); Res.ok (putB i ds o)) | _ => fFor (fIter (fVar i)) tg b env) = forBC i tg b env o := by
    intro o
    cases o with
    | none => rfl
    | some s => cases s <;> rfl
  exact key _
def putR (i : Nat) (ds : List D) (p : Sl × Lo) : Res (Sl × Lo) := .ok (p.1, p.2.set i (.ol ds))
@[simp] theorem putR_ev (i : Nat) (ds : List D) (r : Sl) (e : Lo) : putR i ds (r, e) = .ok (r, e.set i (.ol ds)) := eqq rfl
def lcBC (i : Nat) (tg : Tgt) (ft : EvT) (fe : EvF) (own : List Nat) (env : Lo) : Option Sl → Res (Sl × Lo)
  | some (.ol ds) => (lcC tg ft fe own ([.ol ds], ds, env.set i .no)).bind (putR i ds)
  | _ => fLc (fIter (fVar i)) tg ft fe own env
@[simp] theorem lcBC_ol (i : Nat) (tg : Tgt) (ft : EvT) (fe : EvF) (own : List Nat) (env : Lo) (ds : List D) : lcBC i tg ft fe own env (some (.ol ds)) = (lcC tg ft fe own ([.ol ds], ds, env.set i .no)).bind (putR i ds) := eqq rfl
@[simp] theorem lcBC_sh (i : Nat) (tg : Tgt) (ft : EvT) (fe : EvF) (own : List Nat) (env : Lo) (d : D) : lcBC i tg ft fe own env (some (.sh d)) = fLc (fIter (fVar i)) tg ft fe own env := eqq rfl
@[simp] theorem ev_lcB (i : Nat) (tg : Tgt) (ft : EvT) (fe : EvF) (own : List Nat) (env : Lo) : fLcB i tg ft fe own env = lcBC i tg ft fe own env env[i]? := by
  have key : ∀ o : Option Sl, o = env[i]? → (match o with | some (.ol ds) => (do let (r, e) ← fLc (fTakeI i) tg ft fe own env; Res.ok (r, e.set i (.ol ds))) | _ => fLc (fIter (fVar i)) tg ft fe own env) = lcBC i tg ft fe own env o := by
    intro o ho
    cases o with
    | none => rfl
    | some s =>
      cases s <;> first | rfl | skip
      rename_i ds
      show (fLc (fTakeI i) tg ft fe own env).bind _ = _
      have e1 : fTakeI i env = .ok ([.ol ds], ds, env.set i .no) := by unfold fTakeI; rw [← ho]
      rw [ev_lc, e1]
      rfl
  exact key _ rfl
/-! ### a comprehension within a comprehension -/
def relabS (scope sc : Scope) : Scope :=
  { scope with names := scope.names.map fun (n, k) => if (k == .free && sc.kind == .function && sc.names.lookup n == some .cell) then (n, .cell) else (n, k) }
theorem relab_eq (scope : Scope) (env : Env) : relabel scope env = relabS scope env.scope := rfl
theorem blkOk_in {N : List Str} {scope1 scope2 sc0 : Scope} {env : Env} {own : List (Str × Nat)} (he : env.scope = sc0) (h : blkC N (relabS scope1 sc0) scope2 own = true) : BlkOk N (relabel scope1 env) scope2 own := by
  rw [relab_eq, he]
  exact blkOk_by h
end FL

/-! FX: shapes and equality of data, comprehensions that pick -/
namespace FL
open PySem PySem.Spec PyProof.Rows L2
/-- data of at most k levels that may be compared -/
def Lay (k : Nat) (d : D) : Prop := d.canLay0 = true ∧ d.depth ≤ k
theorem Lay.shaped {k : Nat} {d : D} (h : Lay k d) (hk : k ≤ 64 := by decide) : shapedD d = true := by
  have h2 := h.2
  unfold shapedD SeqAt.shaped
  rw [h.1]
  simp
  omega
theorem Lay.int (i : Int) : Lay 0 (.int i) := ⟨rfl, Nat.le_refl _⟩
theorem Lay.mono {k m : Nat} {d : D} (h : Lay k d) (hk : k ≤ m) : Lay m d := ⟨h.1, Nat.le_trans h.2 hk⟩
theorem layAll {k : Nat} : ∀ {ds : List D}, (∀ d ∈ ds, Lay k d) → PyData.canLayAll0 ds = true ∧ PyData.depthAll ds ≤ k
  | [], _ => ⟨rfl, Nat.zero_le _⟩
  | d :: ds, h => by
    have h1 := h d List.mem_cons_self
    have h2 := layAll (k := k) (ds := ds) fun x hx => h x (List.mem_cons_of_mem _ hx)
    refine ⟨?_, ?_⟩
    · show (d.canLay0 && PyData.canLayAll0 ds) = true
      rw [h1.1, h2.1]; rfl
    · show max d.depth (PyData.depthAll ds) ≤ k
      exact Nat.max_le.mpr ⟨h1.2, h2.2⟩
theorem Lay.list {k : Nat} {ds : List D} (h : ∀ d ∈ ds, Lay k d) : Lay (k + 1) (.list ds) := ⟨(layAll h).1, Nat.succ_le_succ (layAll h).2⟩
theorem Lay.tuple {k : Nat} {ds : List D} (h : ∀ d ∈ ds, Lay k d) : Lay (k + 1) (.tuple ds) := ⟨(layAll h).1, Nat.succ_le_succ (layAll h).2⟩
theorem layInts (ns : List Int) : ∀ d ∈ ns.map PyData.int, Lay 0 d := by
  intro d h
  obtain ⟨i, _, rfl⟩ := List.mem_map.mp h
  exact .int i
theorem Lay.refl {k : Nat} {d : D} (h : Lay k d) : PyData.eqv d d = true := SeqAt.eqv_refl d h.1
@[simp] theorem isND_none : isND .none .none = some (.sh (.bool true)) := eqq rfl
@[simp] theorem isND_int (i : Int) : isND (.int i) .none = some (.sh (.bool false)) := eqq rfl
@[simp] theorem isND_list (ds : List D) : isND (.list ds) .none = some (.sh (.bool false)) := eqq rfl
@[simp] theorem isND_tuple (ds : List D) : isND (.tuple ds) .none = some (.sh (.bool false)) := eqq rfl
@[simp] theorem notND_none : notND .none .none = some (.sh (.bool false)) := eqq rfl
@[simp] theorem notND_int (i : Int) : notND (.int i) .none = some (.sh (.bool true)) := eqq rfl
@[simp] theorem notND_list (ds : List D) : notND (.list ds) .none = some (.sh (.bool true)) := eqq rfl
@[simp] theorem notND_tuple (ds : List D) : notND (.tuple ds) .none = some (.sh (.bool true)) := eqq rfl
@[simp] theorem isi_list (T : String) (ds : List D) : isiD T (.list ds) = ("list" == T || (T == "int" && "list" == "bool")) := eqq rfl
@[simp] theorem isi_tuple (T : String) (ds : List D) : isiD T (.tuple ds) = ("tuple" == T || (T == "int" && "tuple" == "bool")) := eqq rfl
@[simp] theorem isi_none (T : String) : isiD T .none = ("NoneType" == T || (T == "int" && "NoneType" == "bool")) := eqq rfl
/-- a comprehension that picks nothing -/
theorem comp_none {tg : Tgt} {ft : EvT} {fe : EvF} {own : List Nat} {E : Lo} : ∀ (ds acc : List D),
    (∀ d ∈ ds, ∃ e1 e2, bindT tg d E = some e1 ∧ ft e1 = .ok (false, e2) ∧ wipeE e2 own = E) → compF tg ft fe own ds acc E = .ok (acc, E)
  | [], acc, _ => rfl
  | d :: ds, acc, h => by
    obtain ⟨e1, e2, q1, q2, q3⟩ := h d List.mem_cons_self
    have ih := comp_none (fe := fe) ds acc fun x hx => h x (List.mem_cons_of_mem _ hx)
    show (Res.ofO (bindT tg d E)).bind _ = _
    rw [q1]
    show (ft e1).bind _ = _
    rw [q2]
    show compF tg ft fe own ds acc (wipeE e2 own) = _
    rw [q3, ih]
@[simp] theorem addD_list (a b : List D) : addD (.list a) (.list b) = if a.length + b.length ≤ 16777216 then some (.ol (a ++ b)) else none := eqq rfl
@[simp] theorem addD_tuple (a b : List D) : addD (.tuple a) (.tuple b) = if a.length + b.length ≤ 16777216 then some (.sh (.tuple (a ++ b))) else none := eqq rfl
theorem sum_ints (ns : List Int) : sumD [.list (ns.map PyData.int)] = some (.sh (.int ns.sum)) := sumD_ints ns
end FL

/-! FD: dicts of one's own, sorted -/
namespace FL
open PySem PySem.Spec PyProof.Rows L2
def keyOf : Sl → Option Key
  | .sh (.int i) => some (.inl i)
  | .sh (.str x) => some (.inr x)
  | _ => none
def datK : Key → D
  | .inl i => .int i
  | .inr x => .str x
def getK (es : List (Key × D)) (k : Key) : Option D := (es.find? fun kv => decide (kv.1 = k)).map (·.2)
def setK (es : List (Key × D)) (k : Key) (d : D) : List (Key × D) :=
  if (es.any fun kv => decide (kv.1 = k)) = true then es.map (fun kv => if kv.1 = k then (kv.1, d) else kv) else es ++ [(k, d)]
section
variable {K : PySem.W.Frag} {mg : Str → Option Value} {G H : Hp}
theorem keyOf_rel {r : Sl} {k : Key} {v : V} {os : List Addr} (e : keyOf r = some k) (h : RI K mg G H (some v) r os) : v = kV k := by
  unfold keyOf at e
  split at e <;> cases e
  · cases h with
    | bx b => cases b with
      | sh d => cases d; rfl
  · cases h with
    | bx b => cases b with
      | sh d => cases d; rfl
theorem dt_key (k : Key) : Dt K G (kV k) (datK k) := by
  cases k
  · exact .int _
  · exact .str _
theorem getK_rel {ks : List (Key × V)} {es : List (Key × D)} (h : DpKV K G ks es) (k : Key) : (∀ d, getK es k = some d → ∃ v, valV ks k = some v ∧ Dt K G v d) ∧ (valV ks k).isSome = (getK es k).isSome := by
  induction h with
  | nil => exact ⟨(fun d e => by simp [getK] at e), rfl⟩
  | @cons k' v' d' ks es hd t ih =>
    by_cases e : k' = k
    · have e1 : valV ((k', v') :: ks) k = some v' := valV_pos e
      have e2 : getK ((k', d') :: es) k = some d' := by simp [getK, List.find?_cons, e]
      rw [e1, e2]
      exact ⟨fun d q => by cases q; exact ⟨_, rfl, hd⟩, rfl⟩
    · have e1 : valV ((k', v') :: ks) k = valV ks k := valV_neg e
      have e2 : getK ((k', d') :: es) k = getK es k := by simp [getK, List.find?_cons, e]
      rw [e1, e2]
      exact ih
theorem any_rel {ks : List (Key × V)} {es : List (Key × D)} (h : DpKV K G ks es) (k : Key) : (ks.any fun kv => decide (kv.1 = k)) = (es.any fun kv => decide (kv.1 = k)) := by
  induction h with
  | nil => rfl
  | cons _ _ ih => rw [List.any_cons, List.any_cons, ih]
theorem DpKV.append {ks ks' : List (Key × V)} {es es' : List (Key × D)} (h : DpKV K G ks es) (h' : DpKV K G ks' es') : DpKV K G (ks ++ ks') (es ++ es') := by
  induction h with
  | nil => exact h'
  | cons a _ ih => exact .cons a ih
theorem DpKV.over {ks : List (Key × V)} {es : List (Key × D)} (h : DpKV K G ks es) (k : Key) {v : V} {d : D} (hv : Dt K G v d) : DpKV K G (ks.map fun kv => if kv.1 = k then (kv.1, v) else kv) (es.map fun kv => if kv.1 = k then (kv.1, d) else kv) := by
  induction h with
  | nil => exact .nil
  | @cons k' _ _ _ _ a _ ih =>
    rw [List.map_cons, List.map_cons]
    by_cases e : k' = k
    · simp only [e, if_true]
      exact .cons hv ih
    · simp only [e, if_false]
      exact .cons a ih
theorem setK_rel {ks : List (Key × V)} {es : List (Key × D)} (h : DpKV K G ks es) (k : Key) {v : V} {d : D} (hv : Dt K G v d) : DpKV K G (putK ks k v) (setK es k d) := by
  unfold putK setK
  rw [any_rel h k]
  split
  · exact h.over k hv
  · exact h.append (.cons hv .nil)
theorem RI.od_inv {es : List (Key × D)} {ov : Option V} {os : List Addr} (h : RI K mg G H ov (.od es) os) : ∃ p ks, ov = some (.ref p) ∧ os = [p] ∧ H p = some (.dK ks) ∧ DpKV K G ks es := by
  cases h with
  | bx b => cases b with
    | od hp ha => exact ⟨_, _, rfl, rfl, hp, ha⟩
end
/-! ### {} -/
def fD0 : EvF := fun env => .ok (.od [], env)
theorem sem_d0 {K : PySem.W.Frag} {mg : Str → Option Value} : SemE K mg tDNewK fD0 := by
  intro σ H env l r env' h e Q q
  cases e
  intro p hp
  obtain ⟨G, os, rp⟩ := h.rep
  exact q _ _ ⟨h.len, ⟨_, _, rp.new hp fun H' e => .bx (.od e .nil)⟩, fun _ z => by cases z⟩
theorem se_d0 {X : Cx} {pos : Pos} : SE X (.Dict [] [] pos) fD0 := ⟨_, pe_dnewK, sem_d0⟩
/-! ### d[k], of a slot's own dict -/
def fDGet (i : Nat) (fk : EvF) : EvF := fun env => match env[i]? with
  | some (.od _) => do
    let (rk, e1) ← fk env
    match keyOf rk, e1[i]? with
    | some k, some (.od es) => do
      let d ← Res.ofO (getK es k)
      .ok (.sh d, e1)
    | _, _ => .bad
  | _ => .bad
theorem od_there {K : PySem.W.Frag} {mg : Str → Option Value} {σ : L2.St} {H : Hp} {env : Lo} {l : List Item} {i : Nat} {es : List (Key × D)} (h : Hold K mg H σ env l) (e : env[i]? = some (.od es)) : ∃ p ks, σ[i]? = some (some (.ref p)) ∧ H p = some (.dK ks) := by
  obtain ⟨ov, eσ, rp⟩ := h.take e
  obtain ⟨G, os, rp⟩ := rp
  obtain ⟨o0, ri0⟩ := rp.rl.mem List.mem_cons_self
  obtain ⟨p, ks, rfl, _, hp, _⟩ := ri0.od_inv
  exact ⟨p, ks, eσ, hp⟩
theorem od_rel {K : PySem.W.Frag} {mg : Str → Option Value} {σ : L2.St} {G H : Hp} {env : Lo} {L : List Item} {os : List Addr} {i : Nat} {p : Addr} {es : List (Key × D)} (rp : Rp K mg G H L os) (hz : ∀ it ∈ σ.zip env, it ∈ L) (eσ : σ[i]? = some (some (.ref p))) (e : env[i]? = some (.od es)) :
    ∃ ks, H p = some (.dK ks) ∧ DpKV K G ks es := by
  obtain ⟨o1, ri⟩ := rp.rl.mem (hz _ (mem_zip eσ e))
  obtain ⟨p', ks, ep, _, hp, hw⟩ := ri.od_inv
  cases ep
  exact ⟨ks, hp, hw⟩
theorem sem_dget {K : PySem.W.Frag} {mg : Str → Option Value} {i : Nat} {tk : TE} {fk : EvF} (hk : SemE K mg tk fk) : SemE K mg (tDGet (tVar i) tk) (fDGet i fk) := by
  intro σ H env l r env' h e Q q
  unfold fDGet at e
  split at e
  case h_2 => cases e
  rename_i es0 e0
  obtain ⟨⟨rk, e1⟩, ek, e⟩ := Res.bind_ok e
  dsimp only at e
  split at e
  case h_2 => cases e
  rename_i k es hkk e4
  obtain ⟨d, ed, e⟩ := Res.bind_ok e
  replace ed := Res.ofO_ok ed
  cases e
  obtain ⟨p, _, eσ, _⟩ := od_there h e0
  refine ⟨.ref p, eσ, ?_⟩
  refine hk σ H env l rk _ h ek _ fun y H2 h3 => ?_
  obtain ⟨G, os, rp⟩ := h3.rep
  obtain ⟨ks, hp, hw⟩ := od_rel rp (fun it hi => List.mem_cons_of_mem _ (List.mem_append_left _ hi)) eσ e4
  obtain ⟨o2, ri2⟩ := rp.rl.mem (ov := some y) (s := rk) List.mem_cons_self
  have ey := keyOf_rel hkk ri2
  obtain ⟨v, ev, dv⟩ := (getK_rel hw k).1 d ed
  have g : DGet H2 p y (some v) := by rw [ey, ← ev]; exact DGet.k hp
  refine ⟨p, v, rfl, g, q v H2 ⟨h3.len, ?_, fun _ z => by cases z⟩⟩
  have rr : Rep K mg H2 ((some v, Sl.sh d) :: ((some y, rk) :: (σ.zip env' ++ l))) := ⟨_, _, rp.sh dv⟩
  exact (rr.perm (.swap _ _ _)).tail
theorem se_dget {X : Cx} {i : Nat} {x : Str} {k : Expr} {fk : EvF} {npos pos : Pos} (hu : X.A.units + 1 < cLine) (hN : X.N[i]? = some x) (hv : Vis X.env.scope x) (hk : SE X k fk) (hd : (x == ("__debug__" : Str)) = false := by decide) (hcd : (x == ("__classdict__" : Str)) = false := by decide) (hs : NoSl k := by intro _ _; rfl) :
    SE X (.Subscript (.Name x npos) k pos) (fDGet i fk) := by
  obtain ⟨t, p, s⟩ := hk.ex
  exact ⟨_, pe_dget hu (pe_var hN hv hd hcd) p hs, sem_dget s⟩
/-! ### k in d, k not in d -/
def fDIn (neg : Bool) (i : Nat) (fk : EvF) : EvF := fun env => do
  let (rk, e1) ← fk env
  match keyOf rk, e1[i]? with
  | some k, some (.od es) => .ok (.sh (.bool (xor neg (getK es k).isSome)), e1)
  | _, _ => .bad
theorem din_core {K : PySem.W.Frag} {mg : Str → Option Value} {neg : Bool} {i : Nat} {tk : TE} {fk : EvF} (hk : SemE K mg tk fk) {σ : L2.St} {H : Hp} {env : Lo} {l : List Item} {r : Sl} {env' : Lo} (h : Hold K mg H σ env l) (e : fDIn neg i fk env = .ok (r, env')) {Q : VK} (q : ∀ v H', HoldV K mg H' σ env' l v r → Q v H') :
    tk σ H fun y H1 => tVar i σ H1 fun x H2 => ∃ a o, x = .ref a ∧ DGet H2 a y o ∧ Q (.bl (xor neg o.isSome)) H2 := by
  unfold fDIn at e
  obtain ⟨⟨rk, e1⟩, ek, e⟩ := Res.bind_ok e
  dsimp only at e
  split at e
  case h_2 => cases e
  rename_i k es hkk e4
  cases e
  refine hk σ H env l rk _ h ek _ fun y H2 h3 => ?_
  obtain ⟨p, _, eσ, _⟩ := od_there h3.drop e4
  obtain ⟨G, os, rp⟩ := h3.rep
  obtain ⟨ks, hp, hw⟩ := od_rel rp (fun it hi => List.mem_cons_of_mem _ (List.mem_append_left _ hi)) eσ e4
  obtain ⟨o2, ri2⟩ := rp.rl.mem (ov := some y) (s := rk) List.mem_cons_self
  have ey := keyOf_rel hkk ri2
  have g : DGet H2 p y (valV ks k) := by rw [ey]; exact DGet.k hp
  refine ⟨.ref p, eσ, p, _, rfl, g, q _ H2 ⟨h3.len, ?_, fun _ z => by cases z⟩⟩
  rw [(getK_rel hw k).2]
  have rr : Rep K mg H2 ((some (.bl (xor neg (getK es k).isSome)), Sl.sh (.bool (xor neg (getK es k).isSome))) :: ((some y, rk) :: (σ.zip env' ++ l))) := ⟨_, _, rp.sh (.bl _)⟩
  exact (rr.perm (.swap _ _ _)).tail
theorem sem_din {K : PySem.W.Frag} {mg : Str → Option Value} {i : Nat} {tk : TE} {fk : EvF} (hk : SemE K mg tk fk) : SemE K mg (tDIn tk (tVar i)) (fDIn false i fk) := by
  intro σ H env l r env' h e Q q
  have := din_core hk h e q
  simp only [Bool.false_xor] at this
  exact this
theorem sem_dnotin {K : PySem.W.Frag} {mg : Str → Option Value} {i : Nat} {tk : TE} {fk : EvF} (hk : SemE K mg tk fk) : SemE K mg (tDNotIn tk (tVar i)) (fDIn true i fk) := by
  intro σ H env l r env' h e Q q
  have := din_core hk h e q
  simp only [Bool.true_xor] at this
  exact this
section
variable {X : Cx} {i : Nat} {x : Str} {k v : Expr} {fk fv : EvF} {npos pos spos : Pos} {ks : List Nat}
theorem se_din (hu : X.A.units + 1 < cLine) (hN : X.N[i]? = some x) (hv : Vis X.env.scope x) (hk : SE X k fk) (hm : behindInMarks .In (.Name x npos) = false := by rfl) (hd : (x == ("__debug__" : Str)) = false := by decide) (hcd : (x == ("__classdict__" : Str)) = false := by decide) :
    SE X (.Compare k [.In] [.Name x npos] pos) (fDIn false i fk) := by
  obtain ⟨t, p, s⟩ := hk.ex
  exact ⟨_, pe_cmp (pc_din hu p (pe_var hN hv hd hcd)) hm, sem_din s⟩
theorem se_dnotin (hu : X.A.units + 1 < cLine) (hN : X.N[i]? = some x) (hv : Vis X.env.scope x) (hk : SE X k fk) (hm : behindInMarks .NotIn (.Name x npos) = false := by rfl) (hd : (x == ("__debug__" : Str)) = false := by decide) (hcd : (x == ("__classdict__" : Str)) = false := by decide) :
    SE X (.Compare k [.NotIn] [.Name x npos] pos) (fDIn true i fk) := by
  obtain ⟨t, p, s⟩ := hk.ex
  exact ⟨_, pe_cmp (pc_dnotin hu p (pe_var hN hv hd hcd)) hm, sem_dnotin s⟩
theorem st_din (hu : X.A.units + 1 < cLine) (hN : X.N[i]? = some x) (hv : Vis X.env.scope x) (hk : SE X k fk) (hm : behindInMarks .In (.Name x npos) = false := by rfl) (hd : (x == ("__debug__" : Str)) = false := by decide) (hcd : (x == ("__classdict__" : Str)) = false := by decide) :
    ST X (.Compare k [.In] [.Name x npos] pos) (fTst (fDIn false i fk)) := by
  obtain ⟨t, p, s⟩ := hk.ex
  exact ⟨_, pt_cmp (pc_din hu p (pe_var hN hv hd hcd)) hm, sem_tst (sem_din s)⟩
theorem st_dnotin (hu : X.A.units + 1 < cLine) (hN : X.N[i]? = some x) (hv : Vis X.env.scope x) (hk : SE X k fk) (hm : behindInMarks .NotIn (.Name x npos) = false := by rfl) (hd : (x == ("__debug__" : Str)) = false := by decide) (hcd : (x == ("__classdict__" : Str)) = false := by decide) :
    ST X (.Compare k [.NotIn] [.Name x npos] pos) (fTst (fDIn true i fk)) := by
  obtain ⟨t, p, s⟩ := hk.ex
  exact ⟨_, pt_cmp (pc_dnotin hu p (pe_var hN hv hd hcd)) hm, sem_tst (sem_dnotin s)⟩
end
/-! ### d[k] = v -/
def fDPut (i : Nat) (fv fk : EvF) : EvS := fun env => do
  let (r, e1) ← fv env
  let (d, e2) ← Res.ofO (freezeR e1 r)
  match e2[i]? with
  | some (.od _) => do
    let (rk, e3) ← fk e2
    match keyOf rk, e3[i]? with
    | some k, some (.od es) => if es.length < 16777216 then .ok (.nx (e3.set i (.od (setK es k d)))) else .bad
    | _, _ => .bad
  | _ => .bad
theorem sem_dput {K : PySem.W.Frag} {mg : Str → Option Value} {ks : List Nat} {i : Nat} {tv tk : TE} {fv fk : EvF} (hv : SemE K mg tv fv) (hk : SemE K mg tk fk) : SemS K mg ks (sDPut (tVar i) tk tv) (fDPut i fv fk) := by
  intro σ H env l o h e D post
  unfold fDPut at e
  obtain ⟨⟨r, e1⟩, ea, e⟩ := Res.bind_ok e
  obtain ⟨⟨d, e2⟩, ef, e⟩ := Res.bind_ok e
  replace ef := Res.ofO_ok ef
  dsimp only at e
  split at e
  case h_2 => cases e
  rename_i es0 e0
  obtain ⟨⟨rk, e3⟩, ek, e⟩ := Res.bind_ok e
  dsimp only at e
  split at e
  case h_2 => cases e
  rename_i k es hkk e4
  split at e
  case isFalse => cases e
  rename_i hz
  cases e
  refine hv σ H env l r e1 h ea _ fun v H1 h1 => ?_
  have h2 := h1.freeze ef
  obtain ⟨p, _, eσ, _⟩ := od_there h2.hold e0
  refine ⟨.ref p, eσ, ?_⟩
  refine hk σ H1 e2 _ _ e3 h2.hold ek _ fun y H2 h3 => ?_
  obtain ⟨ov', eσ', rp⟩ := h3.hold.take e4
  rw [eσ] at eσ'; cases eσ'
  obtain ⟨G, os, rp⟩ := rp
  obtain ⟨o1, ri⟩ := rp.rl.mem List.mem_cons_self
  obtain ⟨p', ks', ep, _, hp, hw⟩ := ri.od_inv
  cases ep
  obtain ⟨v2, q2, dv⟩ := rp.shOf (ov := some v) (d := d) (List.mem_cons_of_mem _ (List.mem_append_right _ (List.mem_cons_of_mem _ List.mem_cons_self)))
  cases q2
  obtain ⟨o2, ri2⟩ := rp.rl.mem (ov := some y) (s := rk) (List.mem_cons_of_mem _ (List.mem_append_right _ List.mem_cons_self))
  have ey := keyOf_rel hkk ri2
  subst ey
  refine ⟨p, _, rfl, DPut.k hp (by rw [hw.length, sizeLine_eq]; omega), ?_⟩
  refine post σ _ ⟨by rw [List.length_set]; exact h3.len, ?_⟩ .refl
  have rp2 := rp.mut (s' := .od (setK es k d)) (o := .dK (putK ks' k v)) od_own fun H' e => .bx (.od e (setK_rel hw k dv))
  have rp4 := Rep.put ⟨_, _, rp2⟩ (by rw [List.length_set]; exact h3.len) eσ
  rw [List.set_set] at rp4
  exact Rep.dropM (M := [_, _]) rp4
theorem ss_dput {X : Cx} {i : Nat} {x : Str} {k v : Expr} {fk fv : EvF} {npos pos spos : Pos} {ks : List Nat} (hu : X.A.units + 1 < cLine) (hN : X.N[i]? = some x) (hv : Vis X.env.scope x) (he : SE X v fv) (hk : SE X k fk) (hd : (x == ("__debug__" : Str)) = false := by decide) (hcd : (x == ("__classdict__" : Str)) = false := by decide)
    (hs : swapsWith v (some (.Subscript (.Name x npos) k spos)) pos.line X.env = pure false := by rfl) : SS X ks (.Assign [.Subscript (.Name x npos) k spos] v pos) (fDPut i fv fk) := by
  obtain ⟨t, p, s⟩ := he.ex
  obtain ⟨t2, p2, s2⟩ := hk.ex
  exact ⟨_, ps_dput hu (pe_var hN hv hd hcd) p2 p hs, sem_dput s s2⟩
/-! ### list(d): its keys -/
def fDKeys (i : Nat) : EvF := fun env => match env[i]? with
  | some (.od es) => .ok (.ol (es.map fun kv => datK kv.1), env)
  | _ => .bad
theorem keys_rel {K : PySem.W.Frag} {G : Hp} {ks : List (Key × V)} {es : List (Key × D)} (h : DpKV K G ks es) : DtAll K G (ks.map fun kv => kV kv.1) (es.map fun kv => datK kv.1) := by
  induction h with
  | nil => exact .nil
  | cons _ _ ih => exact .cons (dt_key _) ih
theorem sem_dkeys {K : PySem.W.Frag} {mg : Str → Option Value} {i : Nat} : SemE K mg (tCB rListD (tCons (tVar i) tNil)) (fDKeys i) := by
  intro σ H env l r env' h e Q q
  unfold fDKeys at e
  split at e
  case h_2 => cases e
  rename_i es e0
  cases e
  obtain ⟨p, _, eσ, _⟩ := od_there h e0
  obtain ⟨G, os, rp⟩ := h.rep
  obtain ⟨ks, hp, hw⟩ := od_rel rp (fun it hi => List.mem_append_left _ hi) eσ e0
  refine ⟨.ref p, eσ, p, ks, rfl, hp, fun a ha => q _ _ ⟨h.len, ?_, fun _ z => by cases z⟩⟩
  exact ⟨_, _, rp.newOl ha (keys_rel hw)⟩
theorem se_dkeys {X : Cx} {i : Nat} {x : Str} {npos pos p : Pos} (hc : X.calm = true) (hm : X.mg "list" = none) (hN : X.N[i]? = some x) (hv : Vis X.env.scope x) (hg : Gl X "list" := by rfl) (hd : (x == ("__debug__" : Str)) = false := by decide) (hcd : (x == ("__classdict__" : Str)) = false := by decide)
    (he : starEach [.Name x npos] X.env = (false, eval (.Name x npos) X.env) :: starEach [] X.env := by rfl) (hpl : (backTo pos (starEach [] X.env)).any (·.1) = false := by rfl) : SE X (.Call (.Name "list" p) [.Name x npos] [] pos) (fDKeys i) :=
  ⟨_, pe_callTy (call_list_dK hc) hg hm bt_list (pa_cons (pe_var hN hv hd hcd) pa_nil) (by decide) (by decide) he hpl, sem_dkeys⟩
/-! ### sorted, of whole numbers -/
def insI (x : Int) : List Int → List Int
  | [] => [x]
  | y :: ys => if x ≤ y then x :: y :: ys else y :: insI x ys
def sortI : List Int → List Int
  | [] => []
  | x :: xs => insI x (sortI xs)
theorem insI_perm (x : Int) : ∀ ys, (insI x ys).Perm (x :: ys)
  | [] => .refl _
  | y :: ys => by
    unfold insI
    split
    · exact .refl _
    · exact ((insI_perm x ys).cons y).trans (.swap _ _ _)
theorem sortI_perm : ∀ xs, (sortI xs).Perm xs
  | [] => .refl _
  | x :: xs => (insI_perm x _).trans ((sortI_perm xs).cons x)
theorem insI_srt (x : Int) : ∀ ys, ys.Pairwise (· ≤ ·) → (insI x ys).Pairwise (· ≤ ·)
  | [], _ => by simp [insI]
  | y :: ys, h => by
    unfold insI
    have h1 := (List.pairwise_cons.mp h).1
    split
    · rename_i hxy
      refine List.Pairwise.cons (fun z hz => ?_) h
      rcases List.mem_cons.mp hz with rfl | hz
      · exact hxy
      · exact Int.le_trans hxy (h1 z hz)
    · refine List.Pairwise.cons (fun z hz => ?_) (insI_srt x ys h.of_cons)
      rcases List.mem_cons.mp ((insI_perm x ys).mem_iff.mp hz) with rfl | hz
      · omega
      · exact h1 z hz
theorem sortI_srt : ∀ xs, (sortI xs).Pairwise (· ≤ ·)
  | [] => .nil
  | x :: xs => insI_srt x _ (sortI_srt xs)
theorem srt_uniq : ∀ {xs ys : List Int}, xs.Pairwise (· ≤ ·) → ys.Pairwise (· ≤ ·) → xs.Perm ys → xs = ys
  | [], ys, _, _, p => (List.Perm.nil_eq p)
  | x :: xs, [], _, _, p => by have := p.length_eq; simp at this
  | x :: xs, y :: ys, h1, h2, p => by
    have a1 := (List.pairwise_cons.mp h1).1
    have a2 := (List.pairwise_cons.mp h2).1
    have e : x = y := by
      have m1 : x ∈ y :: ys := p.mem_iff.mp List.mem_cons_self
      have m2 : y ∈ x :: xs := p.mem_iff.mpr List.mem_cons_self
      rcases List.mem_cons.mp m1 with e | m1
      · exact e
      · rcases List.mem_cons.mp m2 with e | m2
        · exact e.symm
        · have := a1 y m2; have := a2 x m1; omega
    subst e
    rw [srt_uniq h1.of_cons h2.of_cons p.cons_inv]
def sortedD : List D → Option Sl
  | [.list ds] => (intsOf ds).map fun ns => .ol ((sortI ns).map PyData.int)
  | _ => none
theorem sc_sorted {K : PySem.W.Frag} : SemC K (rSortedI K) sortedD := by
  intro G H vs ds s Q sm h e q
  unfold sortedD at e
  split at e
  · rename_i ds'
    obtain ⟨ns, en, rfl⟩ := Option.map_eq_some_iff.mp e
    obtain ⟨v, rfl, d⟩ := h.one
    have ed := intsOf_eq en
    subst ed
    obtain ⟨p, ws, rfl, hp, hv⟩ := d.list sm
    rw [DtAll.of_ints hv] at hp
    refine ⟨p, ns, rfl, .of hp, fun ns' a hpm hs ha => ?_⟩
    have : ns' = sortI ns := srt_uniq hs (sortI_srt ns) (hpm.trans (sortI_perm ns).symm)
    subst this
    exact q _ _ (.newL ha (DtAll.ints _))
  · cases e
theorem bt_sorted : bootBuiltins "sorted" = some (.builtin "sorted") := by decide +kernel
theorem se_sorted {X : Cx} {a : Expr} {fs : EvA} {p pos : Pos} (hm : X.mg "sorted" = none) (ha : SA X [a] fs) (hg : Gl X "sorted" := by rfl) (he : starEach [a] X.env = (false, eval a X.env) :: starEach [] X.env := by rfl) (hpl : (backTo pos (starEach [] X.env)).any (·.1) = false := by rfl) : SE X (.Call (.Name "sorted" p) [a] [] pos) (fCB sortedD fs) :=
  se_cB cr_sortedI sc_sorted hg hm bt_sorted ha (by decide) (by decide) he hpl
/-! ### how these are reckoned -/
@[simp] theorem ev_d0 (env : Lo) : fD0 env = .ok (.od [], env) := eqq rfl
@[simp] theorem keyOf_int (i : Int) : keyOf (.sh (.int i)) = some (.inl i) := eqq rfl
@[simp] theorem keyOf_str (x : Str) : keyOf (.sh (.str x)) = some (.inr x) := eqq rfl
def dgV (e : Lo) : Option D → Res (Sl × Lo)
  | some d => .ok (.sh d, e)
  | none => .bad
@[simp] theorem dgV_some (e : Lo) (d : D) : dgV e (some d) = .ok (.sh d, e) := eqq rfl
def dgK (e : Lo) : Option Key → Option Sl → Res (Sl × Lo)
  | some k, some (.od es) => dgV e (getK es k)
  | _, _ => .bad
@[simp] theorem dgK_od (e : Lo) (k : Key) (es : List (Key × D)) : dgK e (some k) (some (.od es)) = dgV e (getK es k) := eqq rfl
def dgC (i : Nat) (p : Sl × Lo) : Res (Sl × Lo) := dgK p.2 (keyOf p.1) p.2[i]?
@[simp] theorem dgC_ev (i : Nat) (r : Sl) (e : Lo) : dgC i (r, e) = dgK e (keyOf r) e[i]? := eqq rfl
def dgS (i : Nat) (fk : EvF) (env : Lo) : Option Sl → Res (Sl × Lo)
  | some (.od _) => (fk env).bind (dgC i)
  | _ => .bad
@[simp] theorem dgS_od (i : Nat) (fk : EvF) (env : Lo) (es : List (Key × D)) : dgS i fk env (some (.od es)) = (fk env).bind (dgC i) := eqq rfl
@[simp] theorem ev_dget (i : Nat) (fk : EvF) (env : Lo) : fDGet i fk env = dgS i fk env env[i]? := by
  have k2 : ∀ (o : Option Key) (e1 : Lo) (s : Option Sl), (match o, s with | some k, some (.od es) => (do let d ← Res.ofO (getK es k); Res.ok (Sl.sh d, e1)) | _, _ => Res.bad) = dgK e1 o s := by
    intro o e1 s
    cases o with
    | none => rfl
    | some k =>
      cases s with
      | none => rfl
      | some s =>
        cases s <;> first | rfl | skip
        rename_i es
        show (Res.ofO (getK es k)).bind _ = dgV e1 (getK es k)
        cases getK es k <;> rfl
  have key : ∀ o : Option Sl, (match o with | some (.od _) => (do let (rk, e1) ← fk env; match keyOf rk, e1[i]? with | some k, some (.od es) => (do let d ← Res.ofO (getK es k); Res.ok (Sl.sh d, e1)) | _, _ => Res.bad) | _ => Res.bad) = dgS i fk env o := by
    intro o
    cases o with
    | none => rfl
    | some s =>
      cases s <;> first | rfl | skip
      show (fk env).bind _ = (fk env).bind _
      congr 1
      funext ⟨rk, e1⟩
      exact k2 _ _ _
  exact key _
def diK (neg : Bool) (e : Lo) : Option Key → Option Sl → Res (Sl × Lo)
  | some k, some (.od es) => .ok (.sh (.bool (xor neg (getK es k).isSome)), e)
  | _, _ => .bad
@[simp] theorem diK_od (neg : Bool) (e : Lo) (k : Key) (es : List (Key × D)) : diK neg e (some k) (some (.od es)) = .ok (.sh (.bool (xor neg (getK es k).isSome)), e) := eqq rfl
def diC (neg : Bool) (i : Nat) (p : Sl × Lo) : Res (Sl × Lo) := diK neg p.2 (keyOf p.1) p.2[i]?
@[simp] theorem diC_ev (neg : Bool) (i : Nat) (r : Sl) (e : Lo) : diC neg i (r, e) = diK neg e (keyOf r) e[i]? := eqq rfl
theorem diK_eq (neg : Bool) (e1 : Lo) (o : Option Key) (s : Option Sl) : (match o, s with | some k, some (.od es) => Res.ok (Sl.sh (.bool (xor neg (getK es k).isSome)), e1) | _, _ => Res.bad) = diK neg e1 o s := by
  cases o with
  | none => rfl
  | some k =>
    cases s with
    | none => rfl
    | some s => cases s <;> rfl
@[simp] theorem ev_din (neg : Bool) (i : Nat) (fk : EvF) (env : Lo) : fDIn neg i fk env = (fk env).bind (diC neg i) := by
  have e : (fun p : Sl × Lo => (match keyOf p.1, p.2[i]? with | some k, some (.od es) => Res.ok (Sl.sh (.bool (xor neg (getK es k).isSome)), p.2) | _, _ => Res.bad)) = diC neg i := by
    funext p
    exact diK_eq neg p.2 (keyOf p.1) p.2[i]?
  rw [← e]
  rfl
def dpK (i : Nat) (d : D) (e : Lo) : Option Key → Option Sl → Res Out
  | some k, some (.od es) => if es.length < 16777216 then .ok (.nx (e.set i (.od (setK es k d)))) else .bad
  | _, _ => .bad
@[simp] theorem dpK_od (i : Nat) (d : D) (e : Lo) (k : Key) (es : List (Key × D)) : dpK i d e (some k) (some (.od es)) = if es.length < 16777216 then .ok (.nx (e.set i (.od (setK es k d)))) else .bad := eqq rfl
def dpC (i : Nat) (d : D) (p : Sl × Lo) : Res Out := dpK i d p.2 (keyOf p.1) p.2[i]?
@[simp] theorem dpC_ev (i : Nat) (d : D) (r : Sl) (e : Lo) : dpC i d (r, e) = dpK i d e (keyOf r) e[i]? := eqq rfl
def dpS (i : Nat) (fk : EvF) (d : D) (e : Lo) : Option Sl → Res Out
  | some (.od _) => (fk e).bind (dpC i d)
  | _ => .bad
@[simp] theorem dpS_od (i : Nat) (fk : EvF) (d : D) (e : Lo) (es : List (Key × D)) : dpS i fk d e (some (.od es)) = (fk e).bind (dpC i d) := eqq rfl
def dpF (i : Nat) (fk : EvF) : Option (D × Lo) → Res Out
  | some (d, e) => dpS i fk d e e[i]?
  | none => .bad
@[simp] theorem dpF_some (i : Nat) (fk : EvF) (d : D) (e : Lo) : dpF i fk (some (d, e)) = dpS i fk d e e[i]? := eqq rfl
def dpC1 (i : Nat) (fk : EvF) (p : Sl × Lo) : Res Out := dpF i fk (freezeR p.2 p.1)
@[simp] theorem dpC1_ev (i : Nat) (fk : EvF) (r : Sl) (e : Lo) : dpC1 i fk (r, e) = dpF i fk (freezeR e r) := eqq rfl
theorem dpK_eq (i : Nat) (d : D) (o : Option Key) (e3 : Lo) (s : Option Sl) : (match o, s with | some k, some (.od es) => (if es.length < 16777216 then Res.ok (Out.nx (e3.set i (.od (setK es k d)))) else .bad) | _, _ => Res.bad) = dpK i d e3 o s := by
  cases o with
  | none => rfl
  | some k =>
    cases s with
    | none => rfl
    | some s => cases s <;> rfl
theorem dpC_eq (i : Nat) (d : D) : (fun p : Sl × Lo => (match keyOf p.1, p.2[i]? with | some k, some (.od es) => (if es.length < 16777216 then Res.ok (Out.nx (p.2.set i (.od (setK es k d)))) else .bad) | _, _ => Res.bad)) = dpC i d := by
  funext p
  exact dpK_eq i d (keyOf p.1) p.2 p.2[i]?
@[simp] theorem ev_dput (i : Nat) (fv fk : EvF) (env : Lo) : fDPut i fv fk env = (fv env).bind (dpC1 i fk) := by
  have key : ∀ (e2 : Lo) (d : D) (o : Option Sl), (match o with | some (.od _) => (fk e2).bind (fun p : Sl × Lo => (match keyOf p.1, p.2[i]? with | some k, some (.od es) => (if es.length < 16777216 then Res.ok (Out.nx (p.2.set i (.od (setK es k d)))) else .bad) | _, _ => Res.bad)) | _ => Res.bad) = dpS i fk d e2 o := by
    intro e2 d o
    rw [dpC_eq]
    cases o with
    | none => rfl
    | some s => cases s <;> rfl
  show (fv env).bind _ = (fv env).bind _
  refine congrArg _ ?_
  funext ⟨r, e1⟩
  show (Res.ofO (freezeR e1 r)).bind _ = dpF i fk (freezeR e1 r)
  cases freezeR e1 r with
  | none => rfl
  | some p =>
    obtain ⟨d, e2⟩ := p
    exact key e2 d _
def dkS (env : Lo) : Option Sl → Res (Sl × Lo)
  | some (.od es) => .ok (.ol (es.map fun kv => datK kv.1), env)
  | _ => .bad
@[simp] theorem dkS_od (env : Lo) (es : List (Key × D)) : dkS env (some (.od es)) = .ok (.ol (es.map fun kv => datK kv.1), env) := eqq rfl
@[simp] theorem ev_dkeys (i : Nat) (env : Lo) : fDKeys i env = dkS env env[i]? := by
  have key : ∀ o : Option Sl, (match o with | some (.od es) => Res.ok (Sl.ol (es.map fun kv => datK kv.1), env) | _ => Res.bad) = dkS env o := by
    intro o
    cases o with
    | none => rfl
    | some s => cases s <;> rfl
  exact key _
@[simp] theorem sortedD_ints (ns : List Int) : sortedD [.list (ns.map PyData.int)] = some (.ol ((sortI ns).map PyData.int)) := by
  show (intsOf _).map _ = _
  rw [intsOf_map]; rfl
/-! ### while -/
def whC2 (c : EvT) (b : EvS) (n : Nat) : Out → Res Out
  | .nx e => whileF c b n e
  | .ct e => whileF c b n e
  | .bk e => .ok (.nx e)
  | .rt r e => .ok (.rt r e)
@[simp] theorem whC2_nx (c : EvT) (b : EvS) (n : Nat) (e : Lo) : whC2 c b n (.nx e) = whileF c b n e := eqq rfl
@[simp] theorem whC2_ct (c : EvT) (b : EvS) (n : Nat) (e : Lo) : whC2 c b n (.ct e) = whileF c b n e := eqq rfl
@[simp] theorem whC2_bk (c : EvT) (b : EvS) (n : Nat) (e : Lo) : whC2 c b n (.bk e) = .ok (.nx e) := eqq rfl
@[simp] theorem whC2_rt (c : EvT) (b : EvS) (n : Nat) (r : Sl) (e : Lo) : whC2 c b n (.rt r e) = .ok (.rt r e) := eqq rfl
def whC1 (c : EvT) (b : EvS) (n : Nat) : Bool × Lo → Res Out
  | (true, e) => (b e).bind (whC2 c b n)
  | (false, e) => .ok (.nx e)
@[simp] theorem whC1_t (c : EvT) (b : EvS) (n : Nat) (e : Lo) : whC1 c b n (true, e) = (b e).bind (whC2 c b n) := eqq rfl
@[simp] theorem whC1_f (c : EvT) (b : EvS) (n : Nat) (e : Lo) : whC1 c b n (false, e) = .ok (.nx e) := eqq rfl
theorem while_succ (c : EvT) (b : EvS) (n : Nat) (e : Lo) : whileF c b (n + 1) e = (c e).bind (whC1 c b n) := by
  show (c e).bind _ = (c e).bind _
  refine congrArg _ ?_
  funext ⟨k, e1⟩
  cases k with
  | false => rfl
  | true =>
    show (b e1).bind _ = (b e1).bind _
    refine congrArg _ ?_
    funext o
    cases o <;> rfl
@[simp] theorem ev_while (fuel : Lo → Nat) (c : EvT) (b : EvS) (env : Lo) : fWhile fuel c b env = whileF c b (fuel env) env := eqq rfl
/-- a slot's number, as a loop's measure -/
def natS (i : Nat) (e : Lo) : Nat := match e[i]? with
  | some (.sh (.int j)) => j.toNat + 1
  | _ => 0
theorem natS_int {i : Nat} {e : Lo} {j : Int} (h : e[i]? = some (.sh (.int j))) : natS i e = j.toNat + 1 := by
  unfold natS
  rw [h]
end FL

/-! FP: xs.insert(i, y), xs.pop(i) -/
namespace FL
open PySem PySem.Spec PyProof.Rows L2
abbrev rInsert : V → List V → Hp → VK → Prop := fun x vs H Q => ∃ (l : Addr) (xs : List V) (i : Int) (y : V), x = .ref l ∧ vs = [.int i, y] ∧ H l = some (.lst xs) ∧ xs.length < sizeLine ∧ 0 ≤ i ∧ i < 2 ^ 63 ∧
    Q .non (upd H l (.lst (xs.take i.toNat ++ [y] ++ xs.drop i.toNat)))
def insertM (ds : List D) : List D → Option (List D × D)
  | [.int i, y] => if ds.length < 16777216 ∧ 0 ≤ i ∧ i < 2 ^ 63 then some (ds.take i.toNat ++ [y] ++ ds.drop i.toNat, .none) else none
  | _ => none
theorem sm_insert {K : PySem.W.Frag} : SemM rInsert K insertM := by
  intro G H p ws ds vs es ds' y Q sm gp hp ha hv e q
  unfold insertM at e
  split at e
  · split at e
    · rename_i i d hz
      cases e
      cases hv with
      | cons a b =>
        cases b with
        | cons c b =>
          cases b
          cases a
          exact ⟨p, ws, _, _, rfl, rfl, hp, sizeL' (by rw [ha.length]; exact hz.1), hz.2.1, hz.2.2, q _ _ (((ha.take _).append (.one c)).append (ha.drop _)) .non⟩
    · cases e
  · cases e
def popAtM (ds : List D) : List D → Option (List D × D)
  | [.int i] => if 0 ≤ i ∧ i < 2 ^ 63 then (ds[i.toNat]?).map fun d => (ds.eraseIdx i.toNat, d) else none
  | _ => none
theorem sm_popAt {K : PySem.W.Frag} : SemM rPopAt K popAtM := by
  intro G H p ws ds vs es ds' y Q sm gp hp ha hv e q
  unfold popAtM at e
  split at e
  · split at e
    · rename_i i hz
      simp only [Option.map_eq_some_iff] at e
      obtain ⟨d, e1, e2⟩ := e
      cases e2
      cases hv with
      | cons a b =>
        cases b
        cases a
        obtain ⟨v, f1, f2⟩ := ha.get e1
        have hlt : i.toNat < ws.length := by rw [ha.length]; exact (List.getElem?_eq_some_iff.mp e1).1
        refine ⟨p, ws, i, i.toNat, v, rfl, rfl, hp, by omega, hz.2, ?_, f1, q _ _ (ha.eraseIdx _) f2⟩
        have h3 : ¬ i < 0 := by omega
        have h4 : i < (ws.length : Int) := by omega
        simp [seqIndex?, h3, h4, hz.1]
    · cases e
  · cases e
@[simp] theorem mutV_insert (j : Nat) (i : Int) (d : D) (e : Lo) (ds : List D) : mutV j insertM [.int i, d] e (some (.ol ds)) = if ds.length < 16777216 ∧ 0 ≤ i ∧ i < 9223372036854775808 then .ok (.sh .none, e.set j (.ol (ds.take i.toNat ++ [d] ++ ds.drop i.toNat))) else .bad := by
  unfold mutV insertM
  show (match (if ds.length < 16777216 ∧ 0 ≤ i ∧ i < 9223372036854775808 then some (ds.take i.toNat ++ [d] ++ ds.drop i.toNat, PyData.none) else none) with | some (ds', y) => _ | none => _) = _
  split
  · rename_i h
    split at h
    · rename_i hz
      cases h
      rw [if_pos hz]
    · cases h
  · rename_i h
    split at h
    · cases h
    · rename_i hz
      rw [if_neg hz]
theorem mutV_popAt {j : Nat} {i : Int} {e : Lo} {ds : List D} {d : D} (h0 : 0 ≤ i) (h1 : i < 9223372036854775808) (h : ds[i.toNat]? = some d) : mutV j popAtM [.int i] e (some (.ol ds)) = .ok (.sh d, e.set j (.ol (ds.eraseIdx i.toNat))) := by
  refine mutV_ol ?_
  show (if 0 ≤ i ∧ i < 9223372036854775808 then (ds[i.toNat]?).map fun d => (ds.eraseIdx i.toNat, d) else none) = _
  rw [if_pos ⟨h0, h1⟩, h]
  rfl
end FL

/-! FQ: comprehensions over zip of two names, whose lists stay their own -/
namespace FL
open PySem PySem.Spec PyProof.Rows L2
def seqS : Sl → Option (List D)
  | .sh d => seqOf d
  | .ol ds => some ds
  | _ => none
def tpS : Sl → Bool
  | .sh d => isTup d
  | _ => false
theorem seqS_at {K : PySem.W.Frag} {mg : Str → Option Value} {G H : Hp} {L : List Item} {os : List Addr} {v : V} {s : Sl} {xs : List D} (rp : Rp K mg G H L os) (hm : (some v, s) ∈ L) (e : seqS s = some xs) : ∃ (a : Addr) (vs : List V), v = .ref a ∧ sqS K H (tpS s) a vs ∧ DtAll K G vs xs := by
  cases s with
  | sh d =>
    obtain ⟨v', ev, dd⟩ := rp.shOf hm
    cases ev
    cases dd with
    | lst hs ha => cases e; exact ⟨_, _, rfl, .of (rp.same _ _ hs), ha⟩
    | tup hs ha => cases e; exact ⟨_, _, rfl, .of (rp.same _ _ hs), ha⟩
    | non => cases e
    | bl _ => cases e
    | int _ => cases e
    | str _ => cases e
  | ol ds =>
    cases e
    obtain ⟨o, ri⟩ := rp.rl.mem hm
    obtain ⟨p, vs, ev, _, hp, ha⟩ := ri.ol_inv
    cases ev
    exact ⟨p, vs, rfl, .of hp, ha⟩
  | no => cases e
  | od _ => cases e
  | td _ => cases e
  | tt _ _ => cases e
  | oi _ _ => cases e
  | vw _ => cases e
  | sc _ => cases e
theorem itok_zipS {K : PySem.W.Frag} {mg : Str → Option Value} {a b : Addr} {s t : Sl} {xs ys : List D} (ea : seqS s = some xs) (eb : seqS t = some ys) :
    ItOk K mg (ItzM K (tpS s) (tpS t) a b) [(some (.ref a), s), (some (.ref b), t)] (zipD xs ys) := by
  intro i G H os L rp hm
  obtain ⟨a', vs, e1, q1, h1⟩ := seqS_at rp (hm (some (.ref a), s) (by simp)) ea
  obtain ⟨b', ws, e2, q2, h2⟩ := seqS_at rp (hm (some (.ref b), t) (by simp)) eb
  cases e1
  cases e2
  have hlen : (zipD xs ys).length = min xs.length ys.length := by simp [zipD]
  constructor
  · intro d hd
    have hi := (List.getElem?_eq_some_iff.mp hd).1
    rw [hlen] at hi
    have ex : xs[i]? = some xs[i] := List.getElem?_eq_getElem (by omega)
    have ey : ys[i]? = some ys[i] := List.getElem?_eq_getElem (by omega)
    have ed : d = .tuple [xs[i], ys[i]] := by
      unfold zipD at hd
      rw [List.getElem?_zipWith, ex, ey] at hd
      cases hd; rfl
    obtain ⟨x, x1, x2⟩ := h1.get ex
    obtain ⟨y, y1, y2⟩ := h2.get ey
    refine ⟨⟨vs, ws, x, y, q1, q2, x1, y1⟩, fun v H' hy => ?_⟩
    obtain ⟨T, x', y', rfl, hT, rfl, f1, f2⟩ := hy
    have := f1 vs q1; rw [x1] at this; cases this
    have := f2 ws q2; rw [y1] at this; cases this
    refine ⟨_, .step .refl hT, ?_⟩
    rw [ed]
    have sG : Same G (upd G T (.tup [x, y])) := sameG (rp.same.free hT)
    exact .tup (upd_same) (.cons (Dt.mono sG _ _ x2) (.cons (Dt.mono sG _ _ y2) .nil))
  · intro hi
    rw [hlen] at hi
    have l1 := h1.length
    have l2 := h2.length
    exact ⟨vs, ws, q1, q2, by omega, by omega, by omega⟩
def zipN (i j : Nat) (env : Lo) (s t : Sl) : Res (List Sl × List D × Lo) := match seqS s, seqS t with
  | some xs, some ys => .ok ([s, t], zipD xs ys, (env.set i .no).set j .no)
  | _, _ => .bad
def fZipN (i j : Nat) : EvI := fun env => match env[i]?, env[j]? with
  | some s, some t => if i = j then .bad else zipN i j env s t
  | _, _ => .bad
section
variable {X : Cx}
theorem semip_zipN {e e2 : Expr} {ti : TI} {elts : List Expr} {kk : Nat} {tpos p pos : Pos} {i j : Nat} {x y : Str} {n1 n2 : Pos} (hg : Gl X "zip") (hm : X.mg "zip" = none) (hx : X.N[i]? = some x) (hvx : Vis X.env.scope x) (hy : X.N[j]? = some y) (hvy : Vis X.env.scope y)
    (hd : (x == ("__debug__" : Str)) = false := by decide) (hcd : (x == ("__classdict__" : Str)) = false := by decide) (hd' : (y == ("__debug__" : Str)) = false := by decide) (hcd' : (y == ("__classdict__" : Str)) = false := by decide)
    (hs2 : starEach [.Name y n2] X.env = (false, eval (.Name y n2) X.env) :: starEach [] X.env := by rfl)
    (hs : starEach [.Name x n1, .Name y n2] X.env = (false, eval (.Name x n1) X.env) :: starEach [.Name y n2] X.env := by rfl) (hpl : (backTo pos (starEach [.Name y n2] X.env)).any (·.1) = false := by rfl) :
    ∃ w, PI X (.Tuple elts kk tpos) (.Call (.Name "zip" p) [.Name x n1, .Name y n2] [] pos) w ∧ SemIP X.K X.mg w (fZipN i j) (fun σ vs => ∃ va vb, vs = [va, vb] ∧ σ[i]? = some (some va) ∧ σ[j]? = some (some vb)) := by
  refine ⟨_, pi_zipM hg hm (pa_cons (pe_var hx hvx hd hcd) (pa_cons (pe_var hy hvy hd' hcd') pa_nil hs2) hs) hs hpl, ?_⟩
  intro σ H env l ks ds env' h e R q
  unfold fZipN at e
  split at e
  case h_2 => cases e
  rename_i s t e0 e1
  split at e
  · cases e
  rename_i hij
  unfold zipN at e
  split at e
  case h_2 => cases e
  rename_i xs ys ex ey
  cases e
  obtain ⟨ov, eσ, rp0⟩ := h.take e0
  have h1 : Hold X.K X.mg H σ (env.set i .no) ((ov, s) :: l) := ⟨by rw [List.length_set]; exact h.len, rp0.perm perm_mid⟩
  have e1' : (env.set i Sl.no)[j]? = some t := by rw [List.getElem?_set_ne hij]; exact e1
  obtain ⟨ow, eτ, rp1⟩ := h1.take e1'
  obtain ⟨G, os, rp⟩ := id rp1
  have m1 : (ov, s) ∈ ((ow, t) :: (σ.zip ((env.set i Sl.no).set j Sl.no) ++ (ov, s) :: l)) := List.mem_cons_of_mem _ (List.mem_append_right _ List.mem_cons_self)
  have sn : s ≠ .no := fun z => by rw [z] at ex; cases ex
  have tn : t ≠ .no := fun z => by rw [z] at ey; cases ey
  obtain ⟨v, rfl⟩ := rp.someOf m1 sn
  obtain ⟨w, rfl⟩ := rp.someOf (ov := ow) (s := t) List.mem_cons_self tn
  obtain ⟨a, vs, rfl, q1, _⟩ := seqS_at rp m1 ex
  obtain ⟨b, ws, rfl, q2, _⟩ := seqS_at rp (v := w) List.mem_cons_self ey
  refine ⟨.ref a, eσ, .ref b, eτ, ?_⟩
  refine ⟨_, _, a, b, vs, ws, rfl, q1, q2, q _ [.ref a, .ref b] H ⟨by rw [List.length_set, List.length_set]; exact h.len, ?_, rfl, fun k v' r' z1 z2 => ?_⟩ (itok_zipS ex ey) ⟨_, _, rfl, eσ, eτ⟩⟩
  · refine rp1.perm ?_
    refine List.Perm.trans (List.Perm.cons _ perm_mid.symm) ?_
    exact .swap _ _ _
  · have nv : ∀ r, (r = s ∨ r = t) → ∀ k, r ≠ .vw k := fun r hr k z => by
      rcases hr with rfl | rfl
      · rw [z] at ex; cases ex
      · rw [z] at ey; cases ey
    have : r' = s ∨ r' = t := by
      cases k with
      | zero => simp at z2; exact .inl z2.symm
      | succ k =>
        cases k with
        | zero => simp at z2; exact .inr z2.symm
        | succ k => simp at z2
    exact fun k z => absurd z (nv r' this k)
end
def fLcZ (i j : Nat) (tg : Tgt) (ft : EvT) (fe : EvF) (own : List Nat) : EvF := fun env => match env[i]?, env[j]? with
  | some s, some t => do
    let (r, e) ← fLc (fZipN i j) tg ft fe own env
    .ok (r, (e.set i s).set j t)
  | _, _ => .bad
theorem sem_lcZ {K : PySem.W.Frag} {mg : Str → Option Value} {w : TI} {i j : Nat} (si : SemIP K mg w (fZipN i j) (fun σ vs => ∃ va vb, vs = [va, vb] ∧ σ[i]? = some (some va) ∧ σ[j]? = some (some vb))) {g : TG} {tg : Tgt} {tt : TT} {ft : EvT} {fe : EvF} {own : List Nat} (sg : SemG K mg g tg) (st : SemT K mg tt ft) (ho : ∀ k ∈ tg.slots, k ∈ own) :
    SemE K mg (tLc w g tt (tCan K mg fe) own) (fLcZ i j tg ft fe own) := by
  intro σ H env l r env' h e Q q
  unfold fLcZ at e
  split at e
  case h_2 => cases e
  rename_i s t e0 e1
  obtain ⟨⟨r1, e3⟩, ea, e⟩ := Res.bind_ok e
  cases e
  refine sem_lcK si sg st ho σ H env l r e3 h ea Q fun v H' vs ks ds' e2 et hP hv => ?_
  obtain ⟨va, vb, rfl, eσ, eτ⟩ := hP
  unfold fZipN at et
  rw [e0, e1] at et
  dsimp only at et
  split at et
  · cases et
  rename_i hij
  unfold zipN at et
  split at et
  case h_2 => cases et
  cases et
  obtain ⟨dd, rfl⟩ := fLc_ol ea
  refine q v H' ⟨by rw [List.length_set, List.length_set]; exact hv.len, ?_, fun _ z => by cases z⟩
  have h0 : Rep K mg H' ((some v, Sl.ol dd) :: (σ.zip e3 ++ ((some va, s) :: ((some vb, t) :: l)))) := hv.rep
  have h1 : Rep K mg H' ((some va, s) :: (σ.zip e3 ++ ((some vb, t) :: ((some v, Sl.ol dd) :: l)))) := by
    refine h0.perm ?_
    refine List.Perm.trans (List.Perm.cons _ perm_mid.symm) ?_
    refine (List.Perm.swap _ _ _).trans (List.Perm.cons _ ?_)
    refine List.Perm.trans perm_mid (List.Perm.append_left _ (.swap _ _ _))
  have h2 := Rep.put h1 hv.len eσ
  have h3 : Rep K mg H' ((some vb, t) :: (σ.zip (e3.set i s) ++ ((some v, Sl.ol dd) :: l))) := h2.perm perm_mid.symm
  have h4 := Rep.put h3 (by rw [List.length_set]; exact hv.len) eτ
  exact h4.perm perm_mid.symm
section
variable {X : Cx} {elt : Expr} {ifs elts : List Expr} {scope : Scope} {own : List (Str × Nat)} {pos spos py npos tpos p n1 n2 : Pos} {g : TG} {tt : Tgt} {ft : EvT} {fe : EvF} {i j k kk : Nat} {x y z : Str} {ks : List Nat}
theorem se_lcZ (hc : X.calm = true) (hN : X.N.Nodup) (hgl : Gl X "zip") (hm : X.mg "zip" = none) (hx : X.N[i]? = some x) (hvx : Vis X.env.scope x) (hy : X.N[j]? = some y) (hvy : Vis X.env.scope y) (ok : BlkOk X.N X.env.scope scope own) (sg : SemG X.K X.mg g tt) (ho : ∀ k ∈ tt.slots, k ∈ own.map (·.2))
    (hg : ∀ (s : Shared) (H : Hp) (C : Addr) (cl : List (Str × Addr)) (fp : List Addr), PG (X.blk s H scope (compEnvC scope cl C X.env) fp) (.Tuple elts kk tpos) g) (ht : ∀ (s : Shared) (H : Hp) (C : Addr) (cl : List (Str × Addr)) (fp : List Addr), STs (X.blk s H scope (compEnvC scope cl C X.env) fp) ifs ft)
    (he : ∀ (s : Shared) (H : Hp) (C : Addr) (cl : List (Str × Addr)) (fp : List Addr), SE (X.blk s H scope (compEnvC scope cl C X.env) fp) elt fe)
    (hd : (x == ("__debug__" : Str)) = false := by decide) (hcd : (x == ("__classdict__" : Str)) = false := by decide) (hd' : (y == ("__debug__" : Str)) = false := by decide) (hcd' : (y == ("__classdict__" : Str)) = false := by decide)
    (hs2 : starEach [.Name y n2] X.env = (false, eval (.Name y n2) X.env) :: starEach [] X.env := by rfl)
    (hs : starEach [.Name x n1, .Name y n2] X.env = (false, eval (.Name x n1) X.env) :: starEach [.Name y n2] X.env := by rfl) (hpl : (backTo pos (starEach [.Name y n2] X.env)).any (·.1) = false := by rfl)
    (hfs : ∀ z, foldedSetIterable (.Call (.Name "zip" p) [.Name x n1, .Name y n2] [] pos) X.env z = pure z := by intro _; rfl) :
    SE X (.ListComp elt [⟨.Tuple elts kk tpos, .Call (.Name "zip" p) [.Name x n1, .Name y n2] [] pos, ifs, 0⟩] scope spos) (fLcZ i j tt ft fe (own.map (·.2))) := by
  obtain ⟨w, pi, si⟩ := semip_zipN (X := X) (e := .Name x n1) (e2 := .Name y n2) (ti := fun _ _ _ => True) (elts := elts) (kk := kk) (tpos := tpos) (p := p) (pos := pos) hgl hm hx hvx hy hvy hd hcd hd' hcd' hs2 hs hpl
  exact ⟨_, pe_lc hc hN pi ok hg (fun s H C cl fp => (ht s H C cl fp).pts) (fun s H C cl fp => (he s H C cl fp).canon) hfs, sem_lcZ si sg semt_can ho⟩
theorem ss_setLcZ (hc : X.calm = true) (hN : X.N.Nodup) (hz : X.N[k]? = some z) (hzl : X.env.scope.names.lookup z = some .local)
    (hsw : swapsWith (.ListComp elt [⟨.Tuple elts kk tpos, .Call (.Name "zip" p) [.Name x n1, .Name y n2] [] pos, ifs, 0⟩] scope spos) (some (.Name z py)) npos.line X.env = pure true) (hgl : Gl X "zip") (hm : X.mg "zip" = none) (hx : X.N[i]? = some x) (hvx : Vis X.env.scope x) (hy : X.N[j]? = some y) (hvy : Vis X.env.scope y) (ok : BlkOk X.N X.env.scope scope own) (sg : SemG X.K X.mg g tt) (ho : ∀ k ∈ tt.slots, k ∈ own.map (·.2))
    (hg : ∀ (s : Shared) (H : Hp) (C : Addr) (cl : List (Str × Addr)) (fp : List Addr), PG (X.blk s H scope (compEnvC scope cl C X.env) fp) (.Tuple elts kk tpos) g) (ht : ∀ (s : Shared) (H : Hp) (C : Addr) (cl : List (Str × Addr)) (fp : List Addr), STs (X.blk s H scope (compEnvC scope cl C X.env) fp) ifs ft)
    (he : ∀ (s : Shared) (H : Hp) (C : Addr) (cl : List (Str × Addr)) (fp : List Addr), SE (X.blk s H scope (compEnvC scope cl C X.env) fp) elt fe) (hk : k ∉ ks := by decide)
    (hd : (x == ("__debug__" : Str)) = false := by decide) (hcd : (x == ("__classdict__" : Str)) = false := by decide) (hd' : (y == ("__debug__" : Str)) = false := by decide) (hcd' : (y == ("__classdict__" : Str)) = false := by decide)
    (hs2 : starEach [.Name y n2] X.env = (false, eval (.Name y n2) X.env) :: starEach [] X.env := by rfl)
    (hs : starEach [.Name x n1, .Name y n2] X.env = (false, eval (.Name x n1) X.env) :: starEach [.Name y n2] X.env := by rfl) (hpl : (backTo pos (starEach [.Name y n2] X.env)).any (·.1) = false := by rfl)
    (hfs : ∀ z, foldedSetIterable (.Call (.Name "zip" p) [.Name x n1, .Name y n2] [] pos) X.env z = pure z := by intro _; rfl) :
    SS X ks (.Assign [.Name z py] (.ListComp elt [⟨.Tuple elts kk tpos, .Call (.Name "zip" p) [.Name x n1, .Name y n2] [] pos, ifs, 0⟩] scope spos) npos) (fAsg k (fLcZ i j tt ft fe (own.map (·.2)))) := by
  obtain ⟨w, pi, si⟩ := semip_zipN (X := X) (e := .Name x n1) (e2 := .Name y n2) (ti := fun _ _ _ => True) (elts := elts) (kk := kk) (tpos := tpos) (p := p) (pos := pos) hgl hm hx hvx hy hvy hd hcd hd' hcd' hs2 hs hpl
  exact ⟨_, ps_setLc hc hN hz hzl hsw pi ok hg (fun s H C cl fp => (ht s H C cl fp).pts) (fun s H C cl fp => (he s H C cl fp).canon) hfs, sem_asg (sem_lcZ si sg semt_can ho) hk⟩
end
/-! ### how these are reckoned -/
@[simp] theorem seqS_sh (d : D) : seqS (.sh d) = seqOf d := eqq rfl
@[simp] theorem seqS_ol (ds : List D) : seqS (.ol ds) = some ds := eqq rfl
def putR2 (i j : Nat) (s t : Sl) (p : Sl × Lo) : Res (Sl × Lo) := .ok (p.1, (p.2.set i s).set j t)
@[simp] theorem putR2_ev (i j : Nat) (s t : Sl) (r : Sl) (e : Lo) : putR2 i j s t (r, e) = .ok (r, (e.set i s).set j t) := eqq rfl
def lcZ2 (i j : Nat) (tg : Tgt) (ft : EvT) (fe : EvF) (own : List Nat) (env : Lo) (s t : Sl) : Option (List D) → Option (List D) → Res (Sl × Lo)
  | some xs, some ys => (lcC tg ft fe own ([s, t], zipD xs ys, (env.set i .no).set j .no)).bind (putR2 i j s t)
  | _, _ => .bad
@[simp] theorem lcZ2_some (i j : Nat) (tg : Tgt) (ft : EvT) (fe : EvF) (own : List Nat) (env : Lo) (s t : Sl) (xs ys : List D) : lcZ2 i j tg ft fe own env s t (some xs) (some ys) = (lcC tg ft fe own ([s, t], zipD xs ys, (env.set i .no).set j .no)).bind (putR2 i j s t) := eqq rfl
def lcZC (i j : Nat) (tg : Tgt) (ft : EvT) (fe : EvF) (own : List Nat) (env : Lo) : Option Sl → Option Sl → Res (Sl × Lo)
  | some s, some t => if i = j then .bad else lcZ2 i j tg ft fe own env s t (seqS s) (seqS t)
  | _, _ => .bad
@[simp] theorem lcZC_some (i j : Nat) (tg : Tgt) (ft : EvT) (fe : EvF) (own : List Nat) (env : Lo) (s t : Sl) : lcZC i j tg ft fe own env (some s) (some t) = if i = j then .bad else lcZ2 i j tg ft fe own env s t (seqS s) (seqS t) := eqq rfl
@[simp] theorem ev_lcZ (i j : Nat) (tg : Tgt) (ft : EvT) (fe : EvF) (own : List Nat) (env : Lo) : fLcZ i j tg ft fe own env = lcZC i j tg ft fe own env env[i]? env[j]? := by
  unfold fLcZ
  split
  · rename_i s t e0 e1
    rw [e0, e1]
    show (fLc (fZipN i j) tg ft fe own env).bind _ = _
    rw [ev_lc]
    unfold fZipN
    rw [e0, e1]
    simp only [lcZC_some]
    by_cases hij : i = j
    · simp [hij]
    · simp only [hij, if_false]
      unfold zipN
      cases seqS s with
      | none => rfl
      | some xs =>
        cases seqS t with
        | none => rfl
        | some ys => rfl
  · rename_i h
    cases e0 : env[i]? with
    | none => rfl
    | some s =>
      cases e1 : env[j]? with
      | none => rfl
      | some t => exact absurd e1 (h s t e0)
end FL

/-! FV: a pair of one's own: a datum and a list of one's own -/
namespace FL
open PySem PySem.Spec PyProof.Rows L2
section
variable {K : PySem.W.Frag} {mg : Str → Option Value} {G H : Hp} {L : List Item} {os : List Addr}
theorem RI.tt_inv {d : D} {ds : List D} {ov : Option V} (h : RI K mg G H ov (.tt d ds) os) : ∃ p q v vs, ov = some (.ref p) ∧ os = [p, q] ∧ H p = some (.tup [v, .ref q]) ∧ Dt K G v d ∧ H q = some (.lst vs) ∧ DtAll K G vs ds := by
  cases h with
  | bx b => cases b with
    | tt h1 h2 h3 h4 => exact ⟨_, _, _, _, rfl, rfl, h1, h2, h3, h4⟩
/-- it is opened -/
theorem Rep.tt_open {d : D} {ds : List D} {ov : Option V} (h : Rep K mg H ((ov, .tt d ds) :: L)) : ∃ p q v, ov = some (.ref p) ∧ H p = some (.tup [v, .ref q]) ∧ Rep K mg H ((some v, .sh d) :: (some (.ref q), .ol ds) :: L) := by
  obtain ⟨G, os, sm, rl, nd, off⟩ := h
  cases rl with
  | @cons _ _ o os1 _ ri t =>
    obtain ⟨p, q, v, vs, rfl, rfl, h1, h2, h3, h4⟩ := ri.tt_inv
    have nd2 : ([q] ++ os1).Nodup := by
      have : (p :: (q :: os1)).Nodup := nd
      exact (List.nodup_cons.mp this).2
    refine ⟨p, q, v, rfl, h1, G, [] ++ ([q] ++ os1), sm, .cons (.bx (.sh h2)) (.cons (.bx (.ol h3 h4)) t), nd2, fun a ha => off a ?_⟩
    exact List.mem_cons_of_mem _ ha
/-- it stands still from now on -/
theorem Rep.tt_freeze {d : D} {ds : List D} {ov : Option V} (h : Rep K mg H ((ov, .tt d ds) :: L)) : Rep K mg H ((ov, .sh (.tuple [d, .list ds])) :: L) := by
  obtain ⟨G, os, sm, rl, nd, off⟩ := h
  cases rl with
  | @cons _ _ o os1 _ ri t =>
    obtain ⟨p, q, v, vs, rfl, rfl, h1, h2, h3, h4⟩ := ri.tt_inv
    have n1 : (p :: (q :: os1)).Nodup := nd
    obtain ⟨np, n2⟩ := List.nodup_cons.mp n1
    obtain ⟨nq, n3⟩ := List.nodup_cons.mp n2
    have hne : q ≠ p := fun e => np (by rw [e]; exact List.mem_cons_self)
    have gq : G q = none := off q (by simp)
    have gp : G p = none := off p (by simp)
    have s1 : Same G (upd G q (.lst vs)) := sameG gq
    have gp1 : upd G q (.lst vs) p = none := by rw [upd_ne (fun e => hne e.symm)]; exact gp
    have s2 : Same (upd G q (.lst vs)) (upd (upd G q (.lst vs)) p (.tup [v, .ref q])) := sameG gp1
    have s3 : Same G (upd (upd G q (.lst vs)) p (.tup [v, .ref q])) := fun b x e => s2 b x (s1 b x e)
    have dd : Dt K (upd (upd G q (.lst vs)) p (.tup [v, .ref q])) (.ref p) (.tuple [d, .list ds]) :=
      .tup upd_same (.cons (Dt.mono s3 _ _ h2) (.cons (.lst (by rw [upd_ne hne]; exact upd_same) (DtAll.mono s3 _ _ h4)) .nil))
    refine ⟨_, [] ++ os1, fun b x e => ?_, .cons (.bx (.sh dd)) (t.mono s3 fun a _ x e => e), n3, fun a ha => ?_⟩
    · by_cases hb : b = p
      · subst hb; rw [upd_same] at e; rw [h1]; exact e
      · rw [upd_ne hb] at e
        by_cases hb2 : b = q
        · subst hb2; rw [upd_same] at e; rw [h3]; exact e
        · rw [upd_ne hb2] at e; exact sm b x e
    · have ha : a ∈ os1 := ha
      rw [upd_ne (fun e => np (by rw [← e]; exact List.mem_cons_of_mem _ ha)), upd_ne (fun e => nq (by rw [← e]; exact ha))]
      exact off a (by simp [ha])
/-- a new one, of a datum and a list of one's own -/
theorem Rep.tt_new {d : D} {ds : List D} {x y : V} {p : Addr} (h : Rep K mg H ((some y, .ol ds) :: L)) (hm : (some x, Sl.sh d) ∈ L) (hp : H p = none) : Rep K mg (upd H p (.tup [x, y])) ((some (.ref p), .tt d ds) :: L) := by
  obtain ⟨G, os, rp⟩ := h
  obtain ⟨x', ex, dx⟩ := rp.shOf (List.mem_cons_of_mem _ hm)
  cases ex
  obtain ⟨sm, rl, nd, off⟩ := rp
  have there := RL.there rl
  cases rl with
  | @cons _ _ o os1 _ ri t =>
    obtain ⟨q, vs, e, rfl, hq, ha⟩ := ri.ol_inv
    cases e
    have gp : G p = none := sm.free hp
    have hne : ∀ a ∈ [q] ++ os1, a ≠ p := fun a ha e => by
      obtain ⟨u, hu⟩ := there a ha
      rw [e, hp] at hu; cases hu
    have hq' : upd H p (.tup [x, .ref q]) q = some (.lst vs) := by rw [upd_ne (hne q (by simp))]; exact hq
    refine ⟨G, [p, q] ++ os1, fun b z e => by rw [upd_ne (ne_of_none e gp)]; exact sm b z e, .cons (.bx (.tt upd_same dx hq' ha)) (t.mono (fun _ _ z => z) fun a ha z e => by rw [upd_ne (hne a (by simp [ha]))]; exact e), ?_, fun a ha => ?_⟩
    · exact List.nodup_cons.mpr ⟨fun z => hne p z rfl, nd⟩
    · rcases List.mem_cons.mp ha with rfl | ha
      · exact gp
      · exact off a ha
end
/-! ### (a, b), b the name of a list of one's own -/
def fTT (fa fb : EvF) : EvF := fun env => do
  let (ra, e1) ← fa env
  let (rb, e2) ← fb e1
  match ra, rb with
  | .sh d, .vw i => match e2[i]? with
    | some (.ol ds) => .ok (.tt d ds, e2.set i .no)
    | _ => .bad
  | _, _ => .bad
theorem se_tt {X : Cx} {a b : Expr} {fa fb : EvF} {x1} {pos : Pos} (ha : SE X a fa) (hb : SE X b fb) (he : starEach [a, b] X.env = (false, eval a X.env) :: starEach [b] X.env := by rfl) (he2 : starEach [b] X.env = (false, eval b X.env) :: starEach [] X.env := by rfl) : SE X (.Tuple [a, b] x1 pos) (fTT fa fb) := by
  obtain ⟨t, p, s⟩ := ha.ex
  obtain ⟨t2, p2, s2⟩ := hb.ex
  refine ⟨_, pe_tup (pa_cons p (pa_cons p2 pa_nil he2) he), ?_⟩
  intro σ H env l r env' h e Q q
  unfold fTT at e
  obtain ⟨⟨ra, e1⟩, ea, e⟩ := Res.bind_ok e
  obtain ⟨⟨rb, e2⟩, eb, e⟩ := Res.bind_ok e
  dsimp only at e
  split at e
  case h_2 => cases e
  rename_i d i _
  split at e
  case h_2 => cases e
  rename_i ds e3
  cases e
  refine s σ H env l _ e1 h ea _ fun x H1 h1 => ?_
  refine s2 σ H1 e1 _ _ e2 h1.hold eb _ fun y H2 h2 => ?_
  refine ⟨by rw [sizeLine_eq]; show 2 ≤ _; omega, fun p hp => ?_⟩
  have vy := h2.vw i rfl
  obtain ⟨ov, eσ, rep⟩ := h2.drop.take e3
  rw [vy] at eσ
  cases eσ
  have rr := Rep.tt_new (p := p) (x := x) (d := d) rep (List.mem_append_right _ List.mem_cons_self) hp
  refine q _ _ ⟨by rw [List.length_set]; exact h2.len, ?_, fun _ z => by cases z⟩
  exact (rr.perm ((List.perm_middle.cons _).trans (.swap _ _ _))).tail
/-! ### it is handed on as data -/
def fFrz (fa : EvF) : EvF := fun env => do
  let (r, e1) ← fa env
  match r with
  | .tt d ds => .ok (.sh (.tuple [d, .list ds]), e1)
  | .sh d => .ok (.sh d, e1)
  | _ => .bad
theorem se_frz {X : Cx} {a : Expr} {fa : EvF} (ha : SE X a fa) : SE X a (fFrz fa) := by
  obtain ⟨t, p, s⟩ := ha.ex
  refine ⟨t, p, ?_⟩
  intro σ H env l r env' h e Q q
  unfold fFrz at e
  obtain ⟨⟨ra, e1⟩, ea, e⟩ := Res.bind_ok e
  dsimp only at e
  refine s σ H env l ra e1 h ea _ fun v H1 h1 => ?_
  split at e
  · cases e
    exact q v H1 ⟨h1.len, h1.rep.tt_freeze, fun _ z => by cases z⟩
  · cases e
    exact q v H1 h1
  · cases e
/-! ### looks at a slot's own pair -/
theorem tt_there {K : PySem.W.Frag} {mg : Str → Option Value} {σ : L2.St} {H : Hp} {env : Lo} {l : List Item} {i : Nat} {d : D} {ds : List D} (h : Hold K mg H σ env l) (e : env[i]? = some (.tt d ds)) : ∃ p q v vs, σ[i]? = some (some (.ref p)) ∧ H p = some (.tup [v, .ref q]) ∧ H q = some (.lst vs) := by
  obtain ⟨ov, eσ, rp⟩ := h.take e
  obtain ⟨G, os, rp⟩ := rp
  obtain ⟨o0, ri0⟩ := rp.rl.mem List.mem_cons_self
  obtain ⟨p, q, v, vs, rfl, _, hp, _, hq, _⟩ := ri0.tt_inv
  exact ⟨p, q, v, vs, eσ, hp, hq⟩
def ttS (r : Sl) (env : Lo) : Option Sl → Res (Sl × Lo)
  | some (.tt _ _) => .ok (r, env)
  | _ => .bad
/-- len of it -/
def fTTlen (i : Nat) : EvF := fun env => ttS (.sh (.int 2)) env env[i]?
/-- isinstance of it, tuple -/
def fTTist (i : Nat) : EvF := fun env => ttS (.sh (.bool true)) env env[i]?
/-- isinstance of its second, list -/
def fTTisl (i : Nat) : EvF := fun env => ttS (.sh (.bool true)) env env[i]?
@[simp] theorem ttS_tt (r : Sl) (env : Lo) (d : D) (ds : List D) : ttS r env (some (.tt d ds)) = .ok (r, env) := eqq rfl
@[simp] theorem ev_ttlen (i : Nat) (env : Lo) : fTTlen i env = ttS (.sh (.int 2)) env env[i]? := eqq rfl
@[simp] theorem ev_ttist (i : Nat) (env : Lo) : fTTist i env = ttS (.sh (.bool true)) env env[i]? := eqq rfl
@[simp] theorem ev_ttisl (i : Nat) (env : Lo) : fTTisl i env = ttS (.sh (.bool true)) env env[i]? := eqq rfl
theorem ttS_ok {r r' : Sl} {env env' : Lo} {o : Option Sl} (e : ttS r env o = .ok (r', env')) : ∃ d ds, o = some (.tt d ds) ∧ r' = r ∧ env' = env := by
  unfold ttS at e
  split at e
  · cases e; exact ⟨_, _, rfl, rfl, rfl⟩
  · cases e
section
variable {X : Cx} {i : Nat} {x T : Str} {npos pos p p2 tpos spos : Pos} {b : Expr}
theorem se_ttlen (hm : X.mg "len" = none) (hN : X.N[i]? = some x) (hv : Vis X.env.scope x) (hg : Gl X "len" := by rfl) (hd : (x == ("__debug__" : Str)) = false := by decide) (hcd : (x == ("__classdict__" : Str)) = false := by decide)
    (he : starEach [.Name x npos] X.env = (false, eval (.Name x npos) X.env) :: starEach [] X.env := by rfl) (hpl : (backTo pos (starEach [] X.env)).any (·.1) = false := by rfl) : SE X (.Call (.Name "len" p) [.Name x npos] [] pos) (fTTlen i) := by
  refine ⟨_, pe_callB oc_len hg hm bt_len (pa_cons (pe_var hN hv hd hcd) pa_nil he) (by decide) (by decide) he hpl, ?_⟩
  intro σ H env l r env' h e Q q
  obtain ⟨d, ds, e0, rfl, rfl⟩ := ttS_ok e
  obtain ⟨a, b, v, vs, eσ, hp, hq⟩ := tt_there h e0
  refine ⟨.ref a, eσ, .inl ⟨a, [v, .ref b], rfl, .inr (.of hp), ?_⟩⟩
  exact q _ _ (h.shV fun _ => .int 2)
theorem se_ttist (hm : X.mg "isinstance" = none) (hmT : X.mg "tuple" = none) (hN : X.N[i]? = some x) (hv : Vis X.env.scope x) (hg : Gl X "isinstance" := by rfl) (hgT : Gl X "tuple" := by rfl) (hd : (x == ("__debug__" : Str)) = false := by decide) (hcd : (x == ("__classdict__" : Str)) = false := by decide)
    (he : starEach [.Name x npos, .Name "tuple" p2] X.env = (false, eval (.Name x npos) X.env) :: starEach [.Name "tuple" p2] X.env := by rfl) (he2 : starEach [.Name "tuple" p2] X.env = (false, eval (.Name "tuple" p2) X.env) :: starEach [] X.env := by rfl) (hpl : (backTo pos (starEach [.Name "tuple" p2] X.env)).any (·.1) = false := by rfl) :
    SE X (.Call (.Name "isinstance" p) [.Name x npos, .Name "tuple" p2] [] pos) (fTTist i) := by
  refine ⟨_, pe_callB call_isi hg hm bt_isinstance (pa_cons (pe_var hN hv hd hcd) (pa_cons (pe_bltn (v := .ty "tuple") hgT hmT bt_tuple rfl (by decide) (by decide)) pa_nil he2) he) (by decide) (by decide) he hpl, ?_⟩
  intro σ H env l r env' h e Q q
  obtain ⟨d, ds, e0, rfl, rfl⟩ := ttS_ok e
  obtain ⟨a, b, v, vs, eσ, hp, hq⟩ := tt_there h e0
  refine ⟨.ref a, eσ, ?_⟩
  exact ⟨.ref a, .ty "tuple", .type "tuple", .type "tuple", true, rfl, .ty "tuple", .base (.tup hp), kit_ty (isi_all "tuple" (by decide) "tuple" (by decide)), q _ H (h.shV fun _ => .bl _)⟩
theorem se_ttisl (hm : X.mg "isinstance" = none) (hmT : X.mg "list" = none) (hN : X.N[i]? = some x) (hv : Vis X.env.scope x) (hb : SE X b (fC (.int 1))) (hs : PlainIx b := by exact fun _ _ => rfl) (hg : Gl X "isinstance" := by rfl) (hgT : Gl X "list" := by rfl) (hd : (x == ("__debug__" : Str)) = false := by decide) (hcd : (x == ("__classdict__" : Str)) = false := by decide)
    (he : starEach [.Subscript (.Name x npos) b spos, .Name "list" p2] X.env = (false, eval (.Subscript (.Name x npos) b spos) X.env) :: starEach [.Name "list" p2] X.env := by rfl) (he2 : starEach [.Name "list" p2] X.env = (false, eval (.Name "list" p2) X.env) :: starEach [] X.env := by rfl) (hpl : (backTo pos (starEach [.Name "list" p2] X.env)).any (·.1) = false := by rfl) :
    SE X (.Call (.Name "isinstance" p) [.Subscript (.Name x npos) b spos, .Name "list" p2] [] pos) (fTTisl i) := by
  obtain ⟨t', p', s'⟩ := hb.ex
  refine ⟨_, pe_callB call_isi hg hm bt_isinstance (pa_cons (pe_ix ix_seq (pe_var hN hv hd hcd) p' hs) (pa_cons (pe_bltn (v := .ty "list") hgT hmT bt_list rfl (by decide) (by decide)) pa_nil he2) he) (by decide) (by decide) he hpl, ?_⟩
  intro σ H env l r env' h e Q q
  obtain ⟨d, ds, e0, rfl, rfl⟩ := ttS_ok e
  obtain ⟨a, c, v, vs, eσ, hp, hq⟩ := tt_there h e0
  refine ⟨.ref a, eσ, ?_⟩
  refine s' σ H _ l _ _ h rfl _ fun y H2 h2 => ?_
  obtain ⟨a', c', v', vs', eσ', hp', hq'⟩ := tt_there h2.drop e0
  rw [eσ] at eσ'
  cases eσ'
  obtain ⟨G, os, rp⟩ := h2.rep
  obtain ⟨y', ey, dy⟩ := rp.shOf List.mem_cons_self
  cases ey
  cases dy
  refine .inr (.inl ⟨a, [v', .ref c'], 1, .ref c', rfl, rfl, .of hp', rfl, ?_⟩)
  exact ⟨.ref c', .ty "list", .type "list", .type "list", true, rfl, .ty "list", .base (.lst hq'), kit_ty (isi_all "list" (by decide) "list" (by decide)), q _ H2 (h2.drop.shV fun _ => .bl _)⟩
end
/-! ### a, b = x -/
def fTTunp (i i1 i2 : Nat) : EvS := fun env => match env[i]? with
  | some (.tt d ds) => if i1 < env.length ∧ i2 < env.length then .ok (.nx (((env.set i .no).set i1 (.sh d)).set i2 (.ol ds))) else .bad
  | _ => .bad
theorem ss_ttunp {X : Cx} {ks : List Nat} {i i1 i2 : Nat} {tg : Expr} {x : Str} {npos pos : Pos} (hN : X.N[i]? = some x) (hv : Vis X.env.scope x) (hg : PG X tg (gTup X.K 2 (gNames [i1, i2]))) (hk : ∀ k ∈ ks, k ∉ [i1, i2] := by decide) (hd : (x == ("__debug__" : Str)) = false := by decide) (hcd : (x == ("__classdict__" : Str)) = false := by decide)
    (hs : swapsWithSole [tg] (.Name x npos) pos.line X.env = pure false := by rfl) (hw : swappedStores [tg] (.Name x npos) X.env = pure none := by rfl)
    (h1 : (assignEach [tg] X.env).map (·.2) = [assign tg X.env] := by rfl) : SS X ks (.Assign [tg] (.Name x npos) pos) (fTTunp i i1 i2) := by
  refine ⟨_, ps_asg (pe_var hN hv hd hcd) hg hs hw h1, ?_⟩
  intro σ H env l o h e D post
  unfold fTTunp at e
  split at e
  case h_2 => cases e
  rename_i d ds e0
  split at e
  case isFalse => cases e
  rename_i hi
  cases e
  obtain ⟨ov, eσ, rp⟩ := h.take e0
  obtain ⟨p, q, v, rfl, hp, ro⟩ := rp.tt_open
  refine ⟨.ref p, eσ, p, [v, .ref q], rfl, .of hp, rfl, ?_⟩
  have hl : σ.length = (env.set i .no).length := by rw [List.length_set]; exact h.len
  have r1 : Rep X.K X.mg H ((some v, Sl.sh d) :: (σ.zip (env.set i .no) ++ ((some (.ref q), Sl.ol ds) :: l))) := ro.perm (List.perm_middle.symm.cons _)
  have r2 := Rep.asg r1 hl (by rw [List.length_set]; exact hi.1)
  have r3 := r2.perm List.perm_middle
  have r4 := Rep.asg r3 (by rw [List.length_set, List.length_set]; exact hl) (by rw [List.length_set, List.length_set]; exact hi.2)
  refine ⟨v, [.ref q], rfl, .ref q, [], rfl, rfl, ?_⟩
  refine post _ H ⟨by simp only [List.length_set] at hl ⊢; exact hl, r4⟩ ?_
  exact KeepEq.trans (keep_set fun hm => hk _ hm (by simp)) (keep_set fun hm => hk _ hm (by simp))
def tuS (i i1 i2 : Nat) (env : Lo) : Option Sl → Res Out
  | some (.tt d ds) => if i1 < env.length ∧ i2 < env.length then .ok (.nx (((env.set i .no).set i1 (.sh d)).set i2 (.ol ds))) else .bad
  | _ => .bad
@[simp] theorem tuS_tt (i i1 i2 : Nat) (env : Lo) (d : D) (ds : List D) : tuS i i1 i2 env (some (.tt d ds)) = if i1 < env.length ∧ i2 < env.length then .ok (.nx (((env.set i .no).set i1 (.sh d)).set i2 (.ol ds))) else .bad := eqq rfl
@[simp] theorem ev_ttunp (i i1 i2 : Nat) (env : Lo) : fTTunp i i1 i2 env = tuS i i1 i2 env env[i]? := by
  unfold fTTunp tuS
  cases env[i]? with
  | none => rfl
  | some s => cases s <;> rfl
def ttV (d : D) (i : Nat) (env : Lo) : Option Sl → Res (Sl × Lo)
  | some (.ol ds) => .ok (.tt d ds, env.set i .no)
  | _ => .bad
@[simp] theorem ttV_ol (d : D) (i : Nat) (env : Lo) (ds : List D) : ttV d i env (some (.ol ds)) = .ok (.tt d ds, env.set i .no) := eqq rfl
def ttK (env : Lo) : Sl → Sl → Res (Sl × Lo)
  | .sh d, .vw i => ttV d i env env[i]?
  | _, _ => .bad
@[simp] theorem ttK_vw (env : Lo) (d : D) (i : Nat) : ttK env (.sh d) (.vw i) = ttV d i env env[i]? := eqq rfl
def ttC2 (ra : Sl) (p : Sl × Lo) : Res (Sl × Lo) := ttK p.2 ra p.1
@[simp] theorem ttC2_ev (ra rb : Sl) (e : Lo) : ttC2 ra (rb, e) = ttK e ra rb := eqq rfl
def ttC1 (fb : EvF) (p : Sl × Lo) : Res (Sl × Lo) := (fb p.2).bind (ttC2 p.1)
@[simp] theorem ttC1_ev (fb : EvF) (ra : Sl) (e : Lo) : ttC1 fb (ra, e) = (fb e).bind (ttC2 ra) := eqq rfl
@[simp] theorem ev_tt (fa fb : EvF) (env : Lo) : fTT fa fb env = (fa env).bind (ttC1 fb) := by
  show (fa env).bind _ = (fa env).bind _
  refine congrArg _ ?_
  funext ⟨ra, e1⟩
  show (fb e1).bind _ = (fb e1).bind _
  refine congrArg _ ?_
  funext ⟨rb, e2⟩
  show (match ra, rb with | .sh d, .vw i => (match e2[i]? with | some (.ol ds) => Res.ok (Sl.tt d ds, e2.set i .no) | _ => Res.bad) | _, _ => Res.bad) = ttK e2 ra rb
  cases ra <;> cases rb <;> first | rfl | skip
def frC : Sl × Lo → Res (Sl × Lo)
  | (.tt d ds, e) => .ok (.sh (.tuple [d, .list ds]), e)
  | (.sh d, e) => .ok (.sh d, e)
  | _ => .bad
@[simp] theorem frC_tt (d : D) (ds : List D) (e : Lo) : frC (.tt d ds, e) = .ok (.sh (.tuple [d, .list ds]), e) := eqq rfl
@[simp] theorem frC_sh (d : D) (e : Lo) : frC (.sh d, e) = .ok (.sh d, e) := eqq rfl
@[simp] theorem ev_frz (fa : EvF) (env : Lo) : fFrz fa env = (fa env).bind frC := by
  show (fa env).bind _ = (fa env).bind _
  refine congrArg _ ?_
  funext ⟨r, e1⟩
  cases r <;> rfl
@[simp] theorem asg_tt (e : Lo) (d : D) (ds : List D) : asgR e (.tt d ds) = some (.tt d ds, e) := eqq rfl
@[simp] theorem ret_tt (e : Lo) (d : D) (ds : List D) : retR e (.tt d ds) = some (.tt d ds, e) := eqq rfl
@[simp] theorem callC2_tt (e2 : Lo) (rs : List Sl) (d : D) (ds : List D) (as : List Sl) : callC2 e2 rs (.tt d ds, as) = .ok (.tt d ds, moveBack e2 rs as) := eqq rfl
end FL

set_option exponentiation.threshold 100000
namespace EN
open PySem PySem.Spec PyProof.Rows L2 FL
def c1_greatest_divisor : EvT := (fTst (fOp gtD (fVar 1) (fC (.int 0))))
def b2_greatest_divisor : EvS := (fSeq (fAsg 2 (fOp modD (fVar 0) (fVar 1)))
    (fSeq (fAsg 0 (fVar 1))
    (fAsg 1 (fVar 2))))
def f_greatest_divisor : Fn := runFn 3 2 []
    (fSeq (fAsg 0 (fCB absD (fCons (fVar 0) fNil)))
    (fSeq (fAsg 1 (fCB absD (fCons (fVar 1) fNil)))
    (fSeq (fWhile (natS 1) c1_greatest_divisor b2_greatest_divisor)
    (fRet (fVar 0)))))
def b1_head : EvS := (fIfS (fTst (fOp neD (fOp ixD (fVar 0) (fVar 1)) (fC (.int 0))))
    (fRet (fVar 1))
    fNext)
def f_head : Fn := runFn 2 1 [0]
    (fSeq (fFor (fRng3 (fCons (fOp subD (fCB lenD (fCons (fVar 0) fNil)) (fC (.int 1))) (fCons (fOp1 negD (fC (.int 1))) (fCons (fOp1 negD (fC (.int 1))) fNil)))) (.nm 1) b1_head)
    (fRet (fC .none)))
def e1_primitive : EvF := (fOp divD (fVar 2) (fVar 1))
def b2_primitive : EvS := (fAsg 1 (fCall f_greatest_divisor (fCons (fVar 1) (fCons (fVar 2) fNil))))
def f_primitive : Fn := runFn 3 1 [0]
    (fSeq (fAsg 1 (fC (.int 0)))
    (fSeq (fForB 0 (.nm 2) b2_primitive)
    (fSeq (fIfS (fTst (fOp eqD (fVar 1) (fC (.int 0))))
    (fRet (fVar 0))
    fNext)
    (fSeq (fIfS (fTst (fOp ltD (fOp ixD (fVar 0) (fCall f_head (fCons (fVar 0) fNil))) (fC (.int 0))))
    (fAsg 1 (fOp1 negD (fVar 1)))
    fNext)
    (fRet (fCB tupleD (fCons (fLcB 0 (.nm 2) fYes e1_primitive [2]) fNil)))))))
def e1_cleared : EvF := (fOp subD (fOp mulD (fVar 4) (fOp ixD (fVar 1) (fVar 2))) (fOp mulD (fVar 5) (fOp ixD (fVar 0) (fVar 2))))
def f_cleared : Fn := runFn 6 3 [0, 1, 2]
    (fSeq (fAsg 3 (fLc (fZip (fCons (fVar 0) (fCons (fVar 1) fNil))) (.tp [4, 5]) fYes e1_cleared [4, 5]))
    (fRet (fCall f_primitive (fCons (fCB tupleD (fCons (fVar 3) fNil)) fNil))))
def c1_put_in : EvT := (fAndT (fTst (fOp notND (fCall f_head (fCons (fVar 2) fNil)) (fC .none))) (fTst (fDIn false 0 (fCall f_head (fCons (fVar 2) fNil)))))
def b2_put_in : EvS := (fAsg 2 (fCall f_cleared (fCons (fVar 2) (fCons (fDGet 0 (fCall f_head (fCons (fVar 2) fNil))) (fCons (fCall f_head (fCons (fVar 2) fNil)) fNil)))))
def f_put_in : Fn := runFn 3 2 [0, 1]
    (fSeq (fAsg 2 (fCall f_primitive (fCons (fVar 1) fNil)))
    (fSeq (fWhile (fun _ => 1000) c1_put_in b2_put_in)
    (fIfS (fTst (fOp notND (fCall f_head (fCons (fVar 2) fNil)) (fC .none)))
    (fDPut 0 (fVar 2) (fCall f_head (fCons (fVar 2) fNil)))
    fNext)))
def b1_settled : EvS := (fAsg 2 (fCall f_cleared (fCons (fVar 2) (fCons (fVar 5) (fCons (fCall f_head (fCons (fVar 5) fNil)) fNil)))))
def b2_settled : EvS := (fSeq (fAsg 2 (fDGet 1 (fVar 4)))
    (fSeq (fForB 3 (.nm 5) b1_settled)
    (fDrop (fMut 3 appendM (fCons (fVar 2) fNil)))))
def b3_settled : EvS := (fDrop (fCall f_put_in (fCons (fVar 1) (fCons (fVar 2) fNil))))
def f_settled : Fn := runFn 6 1 [0]
    (fSeq (fAsg 1 fD0)
    (fSeq (fForB 0 (.nm 2) b3_settled)
    (fSeq (fAsg 3 (fLst fNil))
    (fSeq (fFor (fIter (fCB sortedD (fCons (fDKeys 1) fNil))) (.nm 4) b2_settled)
    (fRet (fVar 3))))))
def e1_made_of : EvF := (fOp mulD (fVar 8) (fOp ixD (fVar 3) (fVar 7)))
def b2_made_of : EvS := (fIfS (fTst (fOp neD (fCB sumD (fCons (fLcZ 6 0 (.tp [8, 3]) fYes e1_made_of [8, 3]) fNil)) (fOp mulD (fVar 2) (fOp ixD (fVar 1) (fVar 7)))))
    (fRet (fC .none))
    fNext)
def e3_made_of : EvF := (fOp divD (fOp mulD (fVar 2) (fOp ixD (fVar 1) (fCall f_head (fCons (fVar 3) fNil)))) (fOp ixD (fVar 3) (fCall f_head (fCons (fVar 3) fNil))))
def b4_made_of : EvS := (fSeq (fAsg 4 (fOp ixD (fVar 3) (fCall f_head (fCons (fVar 3) fNil))))
    (fSeq (fAsg 5 (fOp divD (fVar 4) (fCall f_greatest_divisor (fCons (fVar 4) (fCons (fOp ixD (fVar 1) (fCall f_head (fCons (fVar 3) fNil))) fNil)))))
    (fAsg 2 (fOp divD (fOp mulD (fVar 2) (fVar 5)) (fCall f_greatest_divisor (fCons (fVar 2) (fCons (fVar 5) fNil)))))))
def f_made_of : Fn := runFn 9 2 [0, 1]
    (fSeq (fAsg 2 (fC (.int 1)))
    (fSeq (fForB 0 (.nm 3) b4_made_of)
    (fSeq (fAsg 6 (fLcB 0 (.nm 3) fYes e3_made_of [3]))
    (fSeq (fFor (fRng (fCons (fCB lenD (fCons (fVar 1) fNil)) fNil)) (.nm 7) b2_made_of)
    (fRet (fTT (fVar 2) (fVar 6)))))))
def f_l_cell_at : Fn := runFn 2 2 [0, 1]
    (fSeq (fIfS (fTst (fOp ltD (fVar 1) (fScLen 0)))
    (fRet (fScIx 0 (fVar 1)))
    fNext)
    (fRet (fC (.int 0))))
def b1_l_stream : EvS := (fSeq (fAsg 3 (fOp modD (fOp addD (fOp addD (fOp addD (fOp mulD (fVar 3) (fVar 3)) (fOp mulD (fC (.int 48271)) (fVar 3))) (fOp mulD (fC (.int 31)) (fVar 5))) (fVar 1)) (fC (.int 2147483647))))
    (fDrop (fMut 4 appendM (fCons (fOp divD (fVar 3) (fC (.int 3))) fNil))))
def f_l_stream : Fn := runFn 6 3 [0, 1, 2]
    (fSeq (fAsg 3 (fOp modD (fOp addD (fOp addD (fOp modD (fVar 0) (fC (.int 2147483629))) (fOp mulD (fC (.int 7919)) (fVar 1))) (fC (.int 13))) (fC (.int 2147483647))))
    (fSeq (fAsg 4 (fLst fNil))
    (fSeq (fFor (fRng (fCons (fVar 2) fNil)) (.nm 5) b1_l_stream)
    (fRet (fVar 4)))))
def f_l_entry : Fn := runFn 2 2 [0, 1]
    (fSeq (fIfS (fTst (fOp eqD (fVar 1) (fC (.int 0))))
    (fRet (fOp subD (fOp modD (fVar 0) (fC (.int 19))) (fC (.int 9))))
    fNext)
    (fSeq (fIfS (fTst (fOp eqD (fVar 1) (fC (.int 1))))
    (fRet (fOp ixD (fLst (fCons (fC (.int 0)) (fCons (fC (.int 0)) (fCons (fC (.int 1)) (fCons (fOp1 negD (fC (.int 1))) (fCons (fOp subD (fOp modD (fOp divD (fVar 0) (fC (.int 4))) (fC (.int 7))) (fC (.int 3))) fNil)))))) (fOp modD (fVar 0) (fC (.int 5)))))
    fNext)
    (fSeq (fIfS (fTst (fOp eqD (fVar 1) (fC (.int 2))))
    (fRet (fOp subD (fOp modD (fVar 0) (fC (.int 1999999999))) (fC (.int 999999999))))
    fNext)
    (fSeq (fIfS (fTst (fOp eqD (fVar 1) (fC (.int 3))))
    (fRet (fOp mulD (fOp subD (fOp modD (fOp mulD (fOp mulD (fOp mulD (fVar 0) (fVar 0)) (fVar 0)) (fVar 0)) (fOp powD (fC (.int 10)) (fC (.int 30)))) (fOp mulD (fC (.int 5)) (fOp powD (fC (.int 10)) (fC (.int 29))))) (fOp modD (fOp divD (fVar 0) (fC (.int 7))) (fC (.int 3)))))
    fNext)
    (fRet (fOp mulD (fC (.int 6)) (fOp subD (fOp modD (fVar 0) (fC (.int 13))) (fC (.int 6)))))))))
def e1_l_line : EvF := (fCall f_l_entry (fCons (fVar 10) (fCons (fVar 5) fNil)))
def e2_l_line : EvF := (fOp addD (fOp mulD (fVar 8) (fVar 10)) (fOp mulD (fVar 9) (fVar 11)))
def f_l_line : Fn := runFn 12 4 [0, 1, 2, 3]
    (fSeq (fAsg 4 (fCall f_l_stream (fCons (fCall f_l_cell_at (fCons (fVar 0) (fCons (fOp addD (fC (.int 1)) (fOp modD (fVar 1) (fC (.int 62)))) fNil))) (fCons (fVar 1) (fCons (fOp addD (fVar 2) (fC (.int 2))) fNil)))))
    (fSeq (fAsg 5 (fOp modD (fOp divD (fOp ixD (fVar 4) (fC (.int 0))) (fC (.int 8))) (fC (.int 5))))
    (fSeq (fIfS (fAndT (fTst (fOp gtD (fCB lenD (fCons (fVar 3) fNil)) (fC (.int 1)))) (fTst (fOp ltD (fOp modD (fOp ixD (fVar 4) (fC (.int 0))) (fC (.int 8))) (fC (.int 3)))))
    (fSeq (fAsg 6 (fOp ixD (fVar 3) (fOp modD (fOp ixD (fVar 4) (fC (.int 1))) (fCB lenD (fCons (fVar 3) fNil)))))
    (fSeq (fAsg 7 (fOp ixD (fVar 3) (fOp modD (fOp divD (fOp ixD (fVar 4) (fC (.int 1))) (fC (.int 64))) (fCB lenD (fCons (fVar 3) fNil)))))
    (fSeq (fAsg 8 (fOp subD (fOp modD (fOp divD (fOp ixD (fVar 4) (fC (.int 1))) (fC (.int 4096))) (fC (.int 9))) (fC (.int 4))))
    (fSeq (fAsg 9 (fOp subD (fOp modD (fOp divD (fOp ixD (fVar 4) (fC (.int 1))) (fC (.int 40960))) (fC (.int 7))) (fC (.int 3))))
    (fRet (fCB tupleD (fCons (fLcZ 6 7 (.tp [10, 11]) fYes e2_l_line [10, 11]) fNil)))))))
    fNext)
    (fRet (fCB tupleD (fCons (fLc (fIter (fSlice (fVar 4) (fPart (fC (.int 2))) fNoPart)) (.nm 10) fYes e1_l_line [10]) fNil))))))
def b1_l_lines : EvS := (fDrop (fMut 4 appendM (fCons (fCall f_l_line (fCons (fVar 0) (fCons (fVar 5) (fCons (fVar 2) (fCons (fVar 4) fNil))))) fNil)))
def f_l_lines : Fn := runFn 6 1 [0]
    (fSeq (fAsg 1 (fCall f_l_cell_at (fCons (fVar 0) (fCons (fC (.int 0)) fNil))))
    (fSeq (fAsg 2 (fOp addD (fC (.int 1)) (fOp modD (fVar 1) (fC (.int 7)))))
    (fSeq (fAsg 3 (fOp modD (fOp divD (fVar 1) (fC (.int 7))) (fC (.int 9))))
    (fSeq (fIfS (fTst (fOp eqD (fOp modD (fOp divD (fVar 1) (fC (.int 63))) (fC (.int 16))) (fC (.int 5))))
    (fAsg 3 (fOp addD (fC (.int 9)) (fOp modD (fOp divD (fVar 1) (fC (.int 1008))) (fC (.int 52)))))
    fNext)
    (fSeq (fAsg 4 (fLst fNil))
    (fSeq (fFor (fRng (fCons (fVar 3) fNil)) (.nm 5) b1_l_lines)
    (fRet (fTup (fCons (fVar 2) (fCons (fVar 4) fNil))))))))))
def b1_l_head : EvS := (fIfS (fTst (fOp neD (fOp ixD (fVar 0) (fVar 2)) (fC (.int 0))))
    (fAsg 1 (fVar 2))
    fNext)
def f_l_head : Fn := runFn 3 1 [0]
    (fSeq (fAsg 1 (fC .none))
    (fSeq (fFor (fRng (fCons (fCB lenD (fCons (fVar 0) fNil)) fNil)) (.nm 2) b1_l_head)
    (fRet (fVar 1))))
def c1_l_divisor : EvT := (fTst (fOp gtD (fVar 3) (fC (.int 0))))
def b2_l_divisor : EvS := (fSeq (fAsg 4 (fOp modD (fVar 1) (fVar 3)))
    (fSeq (fAsg 1 (fVar 3))
    (fAsg 3 (fVar 4))))
def b3_l_divisor : EvS := (fSeq (fAsg 3 (fCB absD (fCons (fVar 2) fNil)))
    (fWhile (natS 3) c1_l_divisor b2_l_divisor))
def f_l_divisor : Fn := runFn 5 1 [0]
    (fSeq (fAsg 1 (fC (.int 0)))
    (fSeq (fForB 0 (.nm 2) b3_l_divisor)
    (fRet (fVar 1))))
def t1_l_is_settled : EvT := (fTst (fOp neD (fOp ixD (fVar 2) (fOp ixD (fVar 3) (fVar 4))) (fC (.int 0))))
def e2_l_is_settled : EvF := (fVar 2)
def b3_l_is_settled : EvS := (fSeq (fIfS (fOrT (fTst (fOp isND (fOp ixD (fVar 3) (fVar 4)) (fC .none))) (fOrT (fTst (fOp ltD (fOp ixD (fOp ixD (fVar 0) (fVar 4)) (fOp ixD (fVar 3) (fVar 4))) (fC (.int 1)))) (fTst (fOp neD (fCall f_l_divisor (fCons (fOp ixD (fVar 0) (fVar 4)) fNil)) (fC (.int 1))))))
    (fRet (fC (.bool false)))
    fNext)
    (fSeq (fIfS (fAndT (fTst (fOp gtD (fVar 4) (fC (.int 0)))) (fTst (fOp geD (fOp ixD (fVar 3) (fOp subD (fVar 4) (fC (.int 1)))) (fOp ixD (fVar 3) (fVar 4)))))
    (fRet (fC (.bool false)))
    fNext)
    (fIfS (fTst (fOp neD (fCB lenD (fCons (fLcB 0 (.nm 2) t1_l_is_settled e2_l_is_settled [2]) fNil)) (fC (.int 1))))
    (fRet (fC (.bool false)))
    fNext)))
def e4_l_is_settled : EvF := (fCall f_l_head (fCons (fVar 2) fNil))
def t5_l_is_settled : EvT := (fOrT (fNotT (fTst (fIsi "int" (fVar 5)))) (fTst (fIsi "bool" (fVar 5))))
def e6_l_is_settled : EvF := (fVar 5)
def b7_l_is_settled : EvS := (fSeq (fIfS (fOrT (fNotT (fTst (fIsi "tuple" (fVar 2)))) (fTst (fOp neD (fCB lenD (fCons (fVar 2) fNil)) (fVar 1))))
    (fRet (fC (.bool false)))
    fNext)
    (fIfS (fTst (fOp gtD (fCB lenD (fCons (fLcB 2 (.nm 5) t5_l_is_settled e6_l_is_settled [5]) fNil)) (fC (.int 0))))
    (fRet (fC (.bool false)))
    fNext))
def f_l_is_settled : Fn := runFn 6 2 [0, 1]
    (fSeq (fIfS (fNotT (fTst (fIsi "list" (fVar 0))))
    (fRet (fC (.bool false)))
    fNext)
    (fSeq (fForB 0 (.nm 2) b7_l_is_settled)
    (fSeq (fAsg 3 (fLcB 0 (.nm 2) fYes e4_l_is_settled [2]))
    (fSeq (fFor (fRng (fCons (fCB lenD (fCons (fVar 0) fNil)) fNil)) (.nm 4) b3_l_is_settled)
    (fRet (fC (.bool true)))))))
def b1_l_makes : EvS := (fSeq (fAsg 6 (fCall f_l_head (fCons (fVar 3) fNil)))
    (fSeq (fAsg 7 (fOp divD (fVar 2) (fOp ixD (fVar 3) (fVar 6))))
    (fAsg 5 (fOp addD (fVar 5) (fOp mulD (fOp mulD (fOp ixD (fVar 1) (fVar 6)) (fVar 7)) (fOp ixD (fVar 3) (fVar 4)))))))
def b2_l_makes : EvS := (fSeq (fAsg 5 (fC (.int 0)))
    (fSeq (fForB 0 (.nm 3) b1_l_makes)
    (fIfS (fTst (fOp neD (fVar 5) (fOp mulD (fVar 2) (fOp ixD (fVar 1) (fVar 4)))))
    (fRet (fC (.bool false)))
    fNext)))
def b3_l_makes : EvS := (fAsg 2 (fOp mulD (fVar 2) (fOp ixD (fVar 3) (fCall f_l_head (fCons (fVar 3) fNil)))))
def f_l_makes : Fn := runFn 8 2 [0, 1]
    (fSeq (fAsg 2 (fC (.int 1)))
    (fSeq (fForB 0 (.nm 3) b3_l_makes)
    (fSeq (fFor (fRng (fCons (fCB lenD (fCons (fVar 1) fNil)) fNil)) (.nm 4) b2_l_makes)
    (fRet (fC (.bool true))))))
def e1_l_right : EvF := (fOp mulD (fVar 8) (fOp ixD (fVar 9) (fVar 5)))
def b2_l_right : EvS := (fIfS (fTst (fOp neD (fCB sumD (fCons (fLcZ 4 0 (.tp [8, 9]) fYes e1_l_right [8, 9]) fNil)) (fOp mulD (fVar 3) (fOp ixD (fVar 1) (fVar 5)))))
    (fRet (fC (.bool false)))
    fNext)
def t3_l_right : EvT := (fOrT (fNotT (fTst (fIsi "int" (fVar 7)))) (fTst (fIsi "bool" (fVar 7))))
def e4_l_right : EvF := (fVar 7)
def f_l_right : Fn := runFn 10 2 [0, 1]
    (fSeq (fAsg 2 (fCall f_made_of (fCons (fCB listD (fCons (fVar 0) fNil)) (fCons (fVar 1) fNil))))
    (fSeq (fIfS (fNotT (fTst (fCall f_l_makes (fCons (fVar 0) (fCons (fVar 1) fNil)))))
    (fRet (fOp isND (fVar 2) (fC .none)))
    fNext)
    (fSeq (fIfS (fOrT (fNotT (fTst (fTTist 2))) (fOrT (fTst (fOp neD (fTTlen 2) (fC (.int 2)))) (fNotT (fTst (fTTisl 2)))))
    (fRet (fC (.bool false)))
    fNext)
    (fSeq (fTTunp 2 3 4)
    (fSeq (fIfS (fTst (fOp gtD (fCB lenD (fCons (fLc (fIter (fOp addD (fLst (fCons (fVar 3) fNil)) (fVar 4))) (.nm 7) t3_l_right e4_l_right [7]) fNil)) (fC (.int 0))))
    (fRet (fC (.bool false)))
    fNext)
    (fSeq (fIfS (fOrT (fTst (fOp neD (fCB lenD (fCons (fVar 4) fNil)) (fCB lenD (fCons (fVar 0) fNil)))) (fOrT (fTst (fOp ltD (fVar 3) (fC (.int 1)))) (fTst (fOp neD (fCall f_l_divisor (fCons (fOp addD (fLst (fCons (fVar 3) fNil)) (fVar 4)) fNil)) (fC (.int 1))))))
    (fRet (fC (.bool false)))
    fNext)
    (fSeq (fFor (fRng (fCons (fCB lenD (fCons (fVar 1) fNil)) fNil)) (.nm 5) b2_l_right)
    (fSeq (fAsg 6 (fCB listD (fCons (fVar 4) fNil)))
    (fSeq (fDrop (fMut 4 appendM (fCons (fC (.int 1)) fNil)))
    (fRet (fOp eqD (fFrz (fCall f_made_of (fCons (fCB listD (fCons (fVar 0) fNil)) (fCons (fVar 1) fNil)))) (fTup (fCons (fVar 3) (fCons (fVar 6) fNil))))))))))))))
def e1_l_sum : EvF := (fOp divD (fVar 7) (fVar 6))
def e2_l_sum : EvF := (fOp addD (fVar 7) (fOp mulD (fVar 5) (fVar 8)))
def b3_l_sum : EvS := (fSeq (fAsg 5 (fOp ixD (fLst (fCons (fOp subD (fOp modD (fOp ixD (fVar 2) (fVar 4)) (fC (.int 9))) (fC (.int 4))) (fCons (fOp subD (fOp modD (fOp ixD (fVar 2) (fVar 4)) (fC (.int 2000001))) (fC (.int 1000000))) fNil))) (fOp modD (fOp divD (fOp ixD (fVar 2) (fVar 4)) (fC (.int 9))) (fC (.int 2)))))
    (fAsg 3 (fCB tupleD (fCons (fLc (fZip (fCons (fVar 3) (fCons (fOp ixD (fVar 0) (fVar 4)) fNil))) (.tp [7, 8]) fYes e2_l_sum [7, 8]) fNil))))
def f_l_sum : Fn := runFn 9 3 [0, 1, 2]
    (fSeq (fAsg 3 (fCB tupleD (fCons (fOp mulD (fLst (fCons (fC (.int 0)) fNil)) (fVar 1)) fNil)))
    (fSeq (fFor (fRng (fCons (fCB lenD (fCons (fVar 0) fNil)) fNil)) (.nm 4) b3_l_sum)
    (fSeq (fAsg 6 (fCall f_l_divisor (fCons (fVar 3) fNil)))
    (fSeq (fIfS (fAndT (fTst (fOp gtD (fVar 6) (fC (.int 0)))) (fTst (fOp gtD (fOp modD (fOp ixD (fVar 2) (fC (.int 7))) (fC (.int 3))) (fC (.int 0)))))
    (fAsg 3 (fCB tupleD (fCons (fLcB 3 (.nm 7) fYes e1_l_sum [7]) fNil)))
    fNext)
    (fRet (fVar 3))))))
def b1_law : EvS := (fIfS (fNotT (fTst (fCall f_l_right (fCons (fVar 3) (fCons (fVar 6) fNil)))))
    (fRet (fC (.bool false)))
    fNext)
def b2_law : EvS := (fSeq (fAsg 5 (fCall f_l_stream (fCons (fCall f_l_cell_at (fCons (fVar 0) (fCons (fOp addD (fC (.int 50)) (fVar 4)) fNil))) (fCons (fOp addD (fC (.int 70)) (fVar 4)) (fCons (fC (.int 9)) fNil)))))
    (fSeq (fAsg 6 (fCall f_l_sum (fCons (fVar 3) (fCons (fVar 1) (fCons (fVar 5) fNil)))))
    (fSeq (fAsg 7 (fOp modD (fOp ixD (fVar 5) (fC (.int 8))) (fVar 1)))
    (fSeq (fAsg 8 (fOp addD (fOp addD (fSlice (fVar 6) fNoPart (fPart (fVar 7))) (fTup (fCons (fOp addD (fOp addD (fOp ixD (fVar 6) (fVar 7)) (fC (.int 1))) (fOp modD (fOp divD (fOp ixD (fVar 5) (fC (.int 8))) (fC (.int 7))) (fC (.int 3)))) fNil))) (fSlice (fVar 6) (fPart (fOp addD (fVar 7) (fC (.int 1)))) fNoPart)))
    (fIfS (fOrT (fNotT (fTst (fCall f_l_right (fCons (fVar 3) (fCons (fVar 6) fNil))))) (fNotT (fTst (fCall f_l_right (fCons (fVar 3) (fCons (fVar 8) fNil))))))
    (fRet (fC (.bool false)))
    fNext)))))
def f_law : Fn := runFn 9 1 [0]
    (fSeq (fUnp [1, 2] (fCall f_l_lines (fCons (fVar 0) fNil)))
    (fSeq (fAsg 3 (fCall f_settled (fCons (fCB listD (fCons (fVar 2) fNil)) fNil)))
    (fSeq (fIfS (fNotT (fTst (fCall f_l_is_settled (fCons (fVar 3) (fCons (fVar 1) fNil)))))
    (fRet (fC (.bool false)))
    fNext)
    (fSeq (fFor (fRng (fCons (fC (.int 3)) fNil)) (.nm 4) b2_law)
    (fSeq (fFor (fIter (fOp addD (fSlice (fVar 2) fNoPart (fPart (fC (.int 8)))) (fLst (fCons (fCB tupleD (fCons (fOp mulD (fLst (fCons (fC (.int 0)) fNil)) (fVar 1)) fNil)) (fCons (fCall f_l_line (fCons (fVar 0) (fCons (fC (.int 61)) (fCons (fVar 1) (fCons (fLst fNil) fNil))))) fNil))))) (.nm 6) b1_law)
    (fRet (fAndV (fOp eqD (fFrz (fCall f_made_of (fCons (fLst fNil) (fCons (fCB tupleD (fCons (fOp mulD (fLst (fCons (fC (.int 0)) fNil)) (fVar 1)) fNil)) fNil)))) (fTup (fCons (fC (.int 1)) (fCons (fLst fNil) fNil)))) (fOp isND (fFrz (fCall f_made_of (fCons (fLst fNil) (fCons (fCB tupleD (fCons (fOp addD (fOp mulD (fLst (fCons (fC (.int 0)) fNil)) (fOp subD (fVar 1) (fC (.int 1)))) (fLst (fCons (fC (.int 1)) fNil))) fNil)) fNil)))) (fC .none)))))))))
theorem cell_at (ns : List Int) (k : Int) (hk : 0 ≤ k) : ∃ c : Int, f_l_cell_at [.sc ns, .sh (.int k)] = .ok (.sh (.int c), [.sc ns, .sh (.int k)]) := by
  unfold f_l_cell_at
  rw [run_eq]
  by_cases h : k < (ns.length : Int)
  · have hl : k.toNat < ns.length := by omega
    have e : atI ns k = some ns[k.toNat] := at_int hk (List.getElem?_eq_getElem hl)
    refine ⟨ns[k.toNat], ?_⟩
    simp [h, e, backArgs_eq, List.range_succ]
  · refine ⟨0, ?_⟩
    simp [h, backArgs_eq, List.range_succ]
theorem stream_loop (salt : Int) (h0 : 0 ≤ salt) (h1 : salt ≤ 1000) (a0 a1 a2 a5 : Sl) (n : Nat) (num : Int) (hn : n ≤ 1000) (hm : 0 ≤ num ∧ num < 2147483647) :
    ∃ e' : Lo, loopF (.nm 5) b1_l_stream (rngD 0 n) [a0, .sh (.int salt), a2, .sh (.int num), .ol [], a5] = .ok (.nx e') ∧ ∃ (xs : List Int) (num' : Int) (b5 : Sl), e' = [a0, .sh (.int salt), a2, .sh (.int num'), .ol (xs.map PyData.int), b5] ∧ xs.length = n ∧ ∀ x ∈ xs, 0 ≤ x ∧ x < 715827883 := by
  have := loop_inv (tg := .nm 5) (b := b1_l_stream) (fun i e => ∃ (xs : List Int) (num' : Int) (b5 : Sl), e = [a0, .sh (.int salt), a2, .sh (.int num'), .ol (xs.map PyData.int), b5] ∧ xs.length = i ∧ (0 ≤ num' ∧ num' < 2147483647) ∧ ∀ x ∈ xs, 0 ≤ x ∧ x < 715827883)
    (rngD 0 n) (env := [a0, .sh (.int salt), a2, .sh (.int num), .ol [], a5]) ⟨[], num, a5, rfl, rfl, hm, by simp⟩ ?_
  · obtain ⟨e', q, xs, num', b5, e, hl, _, hx⟩ := this
    refine ⟨e', q, xs, num', b5, e, ?_, hx⟩
    rw [hl]; simp [rngD]
  · intro i d e hd ⟨xs, num', b5, he, hl, hm', hx⟩
    have hi : i < n := by
      have := (List.getElem?_eq_some_iff.mp hd).1
      simpa [rngD] using this
    have hdv : d = .int i := by
      unfold rngD at hd
      rw [List.getElem?_map, List.getElem?_range hi] at hd
      simp at hd
      exact hd.symm
    subst he hdv
    have m1 : mulOk num' num' = true := mulOk_left (by omega) (by omega)
    have m2 : mulOk 48271 num' = true := mulOk_left (by omega) (by omega)
    have m3 : mulOk 31 (i : Int) = true := mulOk_left (by omega) (by omega)
    let num2 := (num' * num' + 48271 * num' + 31 * (i : Int) + salt) % 2147483647
    have hn2 : 0 ≤ num2 ∧ num2 < 2147483647 := ⟨Int.emod_nonneg _ (by omega), Int.emod_lt_of_pos _ (by omega)⟩
    have dv : divOk num2 3 = true := by
      unfold divOk
      rw [PyProof.noPylong_small (by decide)]
      rfl
    refine ⟨_, [a0, .sh (.int salt), a2, .sh (.int num2), .ol ((xs ++ [num2.fdiv 3]).map PyData.int), .sh (.int i)], rfl, .inl ?_, xs ++ [num2.fdiv 3], num2, _, rfl, by simp [hl], hn2, ?_⟩
    · unfold b1_l_stream
      simp [mulD_int m1, mulD_int m2, mulD_int m3, modD_int, divD_int dv, show xs.length < 16777216 by omega, num2]
    · intro x hx'
      rcases List.mem_append.mp hx' with h | h
      · exact hx x h
      · rw [List.mem_singleton] at h
        subst h
        rw [Int.fdiv_eq_ediv_of_nonneg _ (by omega)]
        omega

theorem stream (c salt : Int) (h0 : 0 ≤ salt) (h1 : salt ≤ 1000) (n : Nat) (hn : n ≤ 1000) :
    ∃ xs : List Int, f_l_stream [.sh (.int c), .sh (.int salt), .sh (.int n)] = .ok (.ol (xs.map PyData.int), [.sh (.int c), .sh (.int salt), .sh (.int n)]) ∧ xs.length = n ∧ ∀ x ∈ xs, 0 ≤ x ∧ x < 715827883 := by
  have m1 : mulOk 7919 salt = true := mulOk_left (by omega) (by omega)
  obtain ⟨num, en⟩ : ∃ t : Int, t = (c % 2147483629 + 7919 * salt + 13) % 2147483647 := ⟨_, rfl⟩
  have hm : 0 ≤ num ∧ num < 2147483647 := by rw [en]; exact ⟨Int.emod_nonneg _ (by omega), Int.emod_lt_of_pos _ (by omega)⟩
  obtain ⟨e', q, xs, num', b5, e, hl, hx⟩ := stream_loop salt h0 h1 (.sh (.int c)) .no (.sh (.int n)) .no n num hn hm
  refine ⟨xs, ?_, hl, hx⟩
  unfold f_l_stream
  rw [run_eq]
  subst e
  simp [modD_int, mulD_int m1, show (n : Int) < 4611686018427387904 by omega, show -4611686018427387904 ≤ (n : Int) by omega]
  rw [← en, q]
  simp [backArgs_eq, List.range_succ]
theorem zipD_ints : ∀ xs ys : List Int, zipD (xs.map PyData.int) (ys.map PyData.int) = (List.zip xs ys).map fun p => PyData.tuple [.int p.1, .int p.2]
  | [], _ => rfl
  | _ :: _, [] => rfl
  | x :: xs, y :: ys => by
    have := zipD_ints xs ys
    unfold zipD at this ⊢
    simp [this]
abbrev T (ys : List Int) : D := .tuple (ys.map PyData.int)
abbrev I (ys : List Int) : List D := ys.map PyData.int
theorem gcd_loop : ∀ (n : Nat) (a b : Int) (s2 : Sl), 0 ≤ a → 0 ≤ b → b.toNat ≤ n → ∃ s2', whileF c1_greatest_divisor b2_greatest_divisor (n + 1) [.sh (.int a), .sh (.int b), s2] = .ok (.nx [.sh (.int (Int.gcd a b)), .sh (.int 0), s2'])
  | n, a, b, s2, ha, hb, hn => by
    rw [while_succ]
    by_cases h0 : b = 0
    · subst h0
      refine ⟨s2, ?_⟩
      have : (a.natAbs : Int) = a := by omega
      unfold c1_greatest_divisor
      simp [gtD, this]
    · have hm : a % b < b := Int.emod_lt_of_pos _ (by omega)
      have hm0 : 0 ≤ a % b := Int.emod_nonneg _ h0
      match n, hn with
      | 0, hn => omega
      | n + 1, hn =>
        obtain ⟨s2', ih⟩ := gcd_loop n b (a % b) (.sh (.int (a % b))) hb hm0 (by omega)
        refine ⟨s2', ?_⟩
        have eg : Int.gcd b (a % b) = Int.gcd a b := gcd_step ha hb
        rw [eg] at ih
        rw [← ih]
        have hp : 0 < b := by omega
        unfold c1_greatest_divisor b2_greatest_divisor
        simp [gtD, hp, modD_int hp]
theorem gcd_ok (a b : Int) : f_greatest_divisor [.sh (.int a), .sh (.int b)] = .ok (.sh (.int (Int.gcd a b)), [.no, .no]) := by
  have ea : (if a < 0 then -a else a) = (a.natAbs : Int) := by split <;> omega
  have eb : (if b < 0 then -b else b) = (b.natAbs : Int) := by split <;> omega
  obtain ⟨s2', h⟩ := gcd_loop b.natAbs a.natAbs b.natAbs .no (by omega) (by omega) (by omega)
  have eg : Int.gcd (a.natAbs : Int) (b.natAbs : Int) = Int.gcd a b := by simp [Int.gcd]
  rw [eg] at h
  unfold f_greatest_divisor
  rw [run_eq]
  simp [ea, eb]
  rw [natS_int (i := 1) (j := (b.natAbs : Int)) rfl]
  rw [show ((b.natAbs : Int)).toNat = b.natAbs by omega, h]
  simp [backArgs_eq, List.range_succ]
def optI : Option Nat → Sl
  | none => .sh .none
  | some p => .sh (.int p)
theorem dn_succ (lo : Int) (p : Nat) : dnD lo (p + 1) = .int lo :: dnD (lo - 1) p := by
  unfold dnD
  rw [List.range_succ_eq_map, List.map_cons, List.map_map]
  congr 1
  · simp
  · apply List.map_congr_left
    intro i _
    show PyData.int (lo - ((i + 1 : Nat) : Int)) = PyData.int (lo - 1 - i)
    congr 1
    omega
theorem head_loop (xs : List Int) : ∀ (p : Nat) (s1 : Sl), p ≤ xs.length →
    ∃ o, loopF (.nm 1) b1_head (dnD ((p : Int) - 1) p) [.sh (T xs), s1] = .ok o ∧
      match hd xs p with
      | none => ∃ s1', o = .nx [.sh (T xs), s1']
      | some q => o = .rt (.sh (.int q)) [.sh (T xs), .sh (.int q)]
  | 0, s1, _ => ⟨_, rfl, s1, by simp⟩
  | p + 1, s1, hp => by
    have ex : xs[p]? = some xs[p] := List.getElem?_eq_getElem (by omega)
    obtain ⟨x, hx⟩ : ∃ x : Int, x = xs[p] := ⟨_, rfl⟩
    rw [← hx] at ex
    have g : atI (I xs) (p : Int) = some (.int x) := at_nat (by rw [List.getElem?_map, ex]; rfl)
    rw [dn_succ, show (((p + 1 : Nat) : Int) - 1) = (p : Int) by omega]
    have eh : hd xs (p + 1) = if x = 0 then hd xs p else some p := by
      show (if xs[p]?.getD 0 = 0 then hd xs p else some p) = _
      rw [ex, Option.getD_some]
    rw [eh]
    by_cases h0 : x = 0
    · obtain ⟨o, ho, hm⟩ := head_loop xs p (.sh (.int p)) (by omega)
      refine ⟨o, ?_, by rw [if_pos h0]; exact hm⟩
      rw [← ho]
      simp only [T, I] at g
      simp
      unfold b1_head
      simp [T, g, neD_ok, eqv_int, h0]
    · refine ⟨_, ?_, by rw [if_neg h0]⟩
      have hf : (x == 0) = false := by simpa using h0
      simp only [T, I] at g
      simp
      unfold b1_head
      simp [T, g, neD_ok, eqv_int, hf]
theorem head_ok (xs : List Int) (hl : xs.length ≤ 1000000) : f_head [.sh (T xs)] = .ok (optI (headO xs), [.sh (T xs)]) := by
  obtain ⟨o, ho, hm⟩ := head_loop xs xs.length .no (Nat.le_refl _)
  unfold f_head
  rw [run_eq]
  simp only [T, I] at ho
  simp [T, show (xs.length : Int) - 1 < 4611686018427387904 by omega, show -4611686018427387904 ≤ (xs.length : Int) - 1 by omega, show ((xs.length : Int) - 1 - -1).toNat = xs.length by omega]
  rw [ho]
  unfold headO
  cases hh : hd xs xs.length with
  | none =>
    rw [hh] at hm
    obtain ⟨s1', rfl⟩ := hm
    simp [optI, backArgs_eq, List.range_succ]
  | some q =>
    rw [hh] at hm
    subst hm
    simp [optI, backArgs_eq, List.range_succ]
theorem prim_loop (a0 : Sl) : ∀ (xs : List Int) (g : Nat) (s2 : Sl), ∃ s2', loopF (.nm 2) b2_primitive (I xs) [a0, .sh (.int g), s2] = .ok (.nx [a0, .sh (.int (contF g xs)), s2'])
  | [], g, s2 => ⟨s2, rfl⟩
  | x :: xs, g, s2 => by
    obtain ⟨s2', ih⟩ := prim_loop a0 xs (Int.gcd g x) (.sh (.int x))
    refine ⟨s2', ?_⟩
    rw [contF_cons, ← ih]
    have hg := gcd_ok (g : Int) x
    show loopF _ _ (PyData.int x :: I xs) _ = _
    simp
    unfold b2_primitive
    simp [hg]
theorem dOk_of {x y : Int} (h0 : y ≠ 0) (hx : Bd 13500 x) : divOk x y = true := by
  unfold divOk Builtin.divisionGoesByPylong
  have h1 : x ≠ 0 → x.natAbs.log2 < 13500 := fun hx0 => (Nat.log2_lt (by omega)).mpr hx
  simp only [h0, ne_eq, not_false_eq_true, decide_true, Bool.true_and, Bool.not_eq_true', Bool.and_eq_false_iff, decide_eq_false_iff_not, Nat.not_lt]
  by_cases hx0 : x = 0
  · right; simp [hx0]
  · have := h1 hx0
    simp only [beq_iff_eq, hx0, h0, if_false]
    omega
theorem prim_comp (a0 : Sl) (g : Int) (h0 : g ≠ 0) (xs : List Int) (hl : xs.length ≤ 1000000) (hb : ∀ x ∈ xs, Bd 13500 x) :
    compF (.nm 2) fYes e1_primitive [2] (I xs) [] [a0, .sh (.int g), .no] = .ok (I (xs.map fun x => x.fdiv g), [a0, .sh (.int g), .no]) := by
  have hc := comp_map (tg := .nm 2) (ft := fYes) (fe := e1_primitive) (own := [2]) (E := [a0, .sh (.int g), .no])
    (fun d => match d with | .int x => .int (x.fdiv g) | d => d) (I xs) [] (by simp; omega) ?_
  · rw [hc, List.nil_append]
    congr 2
    unfold I
    rw [List.map_map, List.map_map]
    rfl
  · intro d hd
    obtain ⟨x, hx, rfl⟩ := List.mem_map.mp hd
    have dv : divOk x g = true := dOk_of h0 (hb x hx)
    refine ⟨_, .sh (.int (x.fdiv g)), [a0, .sh (.int g), .sh (.int x)], rfl, rfl, ?_, _, rfl, rfl⟩
    unfold e1_primitive
    simp [divD_int dv]
theorem prim_ok (xs : List Int) (hl : xs.length ≤ 1000000) (hb : ∀ x ∈ xs, Bd 13500 x) : f_primitive [.sh (T xs)] = .ok (.sh (T (primF xs)), [.sh (T xs)]) := by
  obtain ⟨s2, lp⟩ := prim_loop (.sh (T xs)) xs 0 .no
  have hh := head_ok xs hl
  unfold f_primitive
  rw [run_eq]
  simp only [T, I] at lp hh
  simp [T]
  simp at lp
  rw [lp]
  by_cases h0 : cont xs = 0
  · have e0 : contF 0 xs = 0 := h0
    simp [e0, eqD_ok, eqv_int, primF, h0, backArgs_eq, List.range_succ]
  · obtain ⟨p, x, ep, ex, hx⟩ := head_of h0
    have ec : (contF 0 xs : Int) = (cont xs : Int) := rfl
    have el : lead xs = x := by unfold lead; rw [ep]; simp [ex]
    have hf : (((cont xs : Nat) : Int) == 0) = false := by simpa using h0
    have g : atI (xs.map PyData.int) (p : Int) = some (.int x) := at_nat (by rw [List.getElem?_map, ex]; rfl)
    rw [ec]
    simp [eqD_ok, eqv_int, hf, hh, ep, optI, g, ltD]
    by_cases hneg : x < 0
    · have eg : primG xs = -(cont xs : Int) := by unfold primG; rw [el, if_pos hneg]
      have pc := prim_comp (.sh (T xs)) (-(cont xs : Int)) (by omega) xs hl hb
      simp only [T, I] at pc
      simp [hneg]
      rw [pc]
      simp [primF, h0, eg, backArgs_eq, List.range_succ]
    · have eg : primG xs = (cont xs : Int) := by unfold primG; rw [el, if_neg hneg]
      have pc := prim_comp (.sh (T xs)) (cont xs : Int) (by omega) xs hl hb
      simp only [T, I] at pc
      simp [hneg]
      rw [pc]
      simp [primF, h0, eg, backArgs_eq, List.range_succ]
theorem clear_comp (xs ys : List Int) (p : Nat) (hx : p < xs.length) (hy : p < ys.length) (hl : xs.length ≤ 1000000) (k : Nat) (bx : ∀ x ∈ xs, Bd k x) (m : Nat) (by' : ∀ y ∈ ys, Bd m y) (hk : k + m ≤ 900000) :
    compF (.tp [4, 5]) fYes e1_cleared [4, 5] (zipD (xs.map PyData.int) (ys.map PyData.int)) [] [.sh (T xs), .sh (T ys), .sh (.int p), .no, .no, .no] = .ok (I (rawF xs ys p), [.sh (T xs), .sh (T ys), .sh (.int p), .no, .no, .no]) := by
  have ex : xs[p]? = some xs[p] := List.getElem?_eq_getElem hx
  have ey : ys[p]? = some ys[p] := List.getElem?_eq_getElem hy
  have bxp := bx _ (List.getElem_mem hx)
  have byp := by' _ (List.getElem_mem hy)
  obtain ⟨u, hu⟩ : ∃ u : Int, u = xs[p] := ⟨_, rfl⟩
  obtain ⟨v, hv⟩ : ∃ v : Int, v = ys[p] := ⟨_, rfl⟩
  rw [← hu] at ex bxp
  rw [← hv] at ey byp
  have g1 : atI (I xs) (p : Int) = some (.int u) := at_nat (by rw [List.getElem?_map, ex]; rfl)
  have g2 : atI (I ys) (p : Int) = some (.int v) := at_nat (by rw [List.getElem?_map, ey]; rfl)
  have er : rawF xs ys p = List.zipWith (fun a b => a * v - b * u) xs ys := by unfold rawF; simp only [ex, ey, Option.getD_some]
  rw [er]
  have hc := comp_map (tg := .tp [4, 5]) (ft := fYes) (fe := e1_cleared) (own := [4, 5]) (E := [.sh (T xs), .sh (T ys), .sh (.int p), .no, .no, .no])
    (fun d => match d with | .tuple [.int a, .int b] => .int (a * v - b * u) | d => d) (zipD (xs.map PyData.int) (ys.map PyData.int)) [] (by rw [zipD_ints]; simp; omega) ?_
  · rw [hc, List.nil_append]
    congr 2
    rw [zipD_ints, List.map_map, ← List.map_uncurry_zip_eq_zipWith, I, List.map_map]
    rfl
  · intro d hd
    rw [zipD_ints] at hd
    obtain ⟨⟨a, b⟩, hp, rfl⟩ := List.mem_map.mp hd
    have m1 : mulOk a v = true := (bx a (List.of_mem_zip hp).1).mOk byp (by omega)
    have m2 : mulOk b u = true := (by' b (List.of_mem_zip hp).2).mOk bxp (by omega)
    refine ⟨_, .sh (.int (a * v - b * u)), [.sh (T xs), .sh (T ys), .sh (.int p), .no, .sh (.int a), .sh (.int b)], rfl, rfl, ?_, _, rfl, rfl⟩
    unfold e1_cleared
    simp only [I] at g1 g2
    simp [T, g1, g2, mulD_int m1, mulD_int m2]
theorem cleared_ok (xs ys : List Int) (p : Nat) (hx : p < xs.length) (he : xs.length = ys.length) (hl : xs.length ≤ 1000000) (k : Nat) (bx : ∀ x ∈ xs, Bd k x) (m : Nat) (by' : ∀ y ∈ ys, Bd m y) (hk : k + m ≤ 900000) (hb : ∀ x ∈ rawF xs ys p, Bd 13500 x) :
    f_cleared [.sh (T xs), .sh (T ys), .sh (.int p)] = .ok (.sh (T (clearF xs ys p)), [.sh (T xs), .sh (T ys), .sh (.int p)]) := by
  have cc := clear_comp xs ys p hx (by omega) hl k bx m by' hk
  have po := prim_ok (rawF xs ys p) (by rw [rawF_len xs ys p he]; omega) hb
  unfold f_cleared clearF
  rw [run_eq]
  generalize rawF xs ys p = rs at cc po ⊢
  simp only [T, I] at cc po
  simp [T]
  rw [cc]
  simp [po, backArgs_eq, List.range_succ]
def keyI (es : List (Key × D)) (p : Nat) : Option D := getK es (.inl (p : Int))
def tabD (t : Tab) : List (Key × D) := t.map fun e => (.inl (e.1 : Int), T e.2)
theorem getK_tab (p : Nat) : ∀ t : Tab, getK (tabD t) (.inl (p : Int)) = (getT t p).map T
  | [] => rfl
  | e :: t => by
    have ih := getK_tab p t
    unfold getK getT tabD at *
    rw [List.map_cons, List.find?_cons, List.find?_cons]
    by_cases h : e.1 = p
    · simp [h]
    · have : ¬ ((e.1 : Int) = (p : Int)) := by omega
      simp only [Sum.inl.injEq, this, decide_false, h]
      exact ih
theorem setK_tab (p : Nat) (row : List Int) (t : Tab) (h : getT t p = none) : setK (tabD t) (.inl (p : Int)) (T row) = tabD (t ++ [(p, row)]) := by
  have hk := getK_tab p t
  rw [h] at hk
  unfold setK
  have : ((tabD t).any fun kv => decide (kv.1 = (.inl (p : Int) : Key))) = false := by
    unfold getK at hk
    simp only [Option.map_none, Option.map_eq_none_iff] at hk
    rw [List.find?_eq_none] at hk
    rw [List.any_eq_false]
    intro x hx
    have := hk x hx
    simpa using this
  rw [this]
  simp [tabD]
theorem put_loop {n k : Nat} (t : Tab) (a1 : Sl) (hn : n ≤ 1000) (hk : k ≤ 400000) : ∀ (f : Nat) (left fin : List Int), putF t f left = some fin → putOk n k t f left →
    whileF c1_put_in b2_put_in f [.od (tabD t), a1, .sh (T left)] = .ok (.nx [.od (tabD t), a1, .sh (T fin)])
  | 0, left, fin, e, _ => by cases e
  | f + 1, left, fin, e, h => by
    obtain ⟨hl, hb, h⟩ := h
    have hh := head_ok left (by omega)
    rw [while_succ]
    unfold putF at e
    cases ep : headO left with
    | none =>
      rw [ep] at e h hh
      cases e
      simp only [optI, T] at hh
      unfold c1_put_in
      simp [T, hh]
    | some p =>
      rw [ep] at e h hh
      have hp : p < left.length := (hd_some ep).1
      have gk := getK_tab p t
      cases eg : getT t p with
      | none =>
        rw [eg] at gk
        simp only [eg] at e h
        cases e
        simp only [optI, T, Option.map_none] at hh gk
        unfold c1_put_in
        generalize tabD t = A at *
        simp [T, hh, gk]
      | some row =>
        rw [eg] at gk
        simp only [eg] at e h
        obtain ⟨rl, rb, hr, hrec⟩ := h
        have ih := put_loop t a1 hn hk f (clearF left row p) fin e hrec
        have co := cleared_ok left row p hp (by omega) (by omega) k hb k rb (by omega) hr
        rw [← ih]
        simp only [optI, T, Option.map_some] at hh gk co
        unfold c1_put_in b2_put_in
        generalize tabD t = A at *
        simp [T, hh, gk, co]
theorem put_ok {n k : Nat} (t : Tab) (line fin : List Int) (hn : n ≤ 1000) (hk : k ≤ 400000) (ht : t.length < 16777216) (hl : line.length = n) (hb : ∀ x ∈ line, Bd 13500 x) (hfl : fin.length = n) (e : putF t 1000 (primF line) = some fin) (h : putOk n k t 1000 (primF line)) :
    f_put_in [.od (tabD t), .sh (T line)] = .ok (.sh .none, [.od (tabD (addT t fin)), .sh (T line)]) := by
  have po := prim_ok line (by omega) hb
  have pl := put_loop t (.sh (T line)) hn hk 1000 (primF line) fin e h
  have hh := head_ok fin (by omega)
  have lt : (tabD t).length < 16777216 := by unfold tabD; simpa using ht
  have hfree := putF_free e
  unfold f_put_in addT
  rw [run_eq]
  simp only [T] at po pl hh
  cases ep : headO fin with
  | none =>
    rw [ep] at hh
    simp only [optI] at hh
    generalize tabD t = A at *
    simp [T, po]
    rw [pl]
    simp [hh, backArgs_eq, List.range_succ]
  | some p =>
    rw [ep] at hh
    have sk := setK_tab p fin t (hfree p ep)
    simp only [optI] at hh
    simp only [← sk, T]
    generalize tabD t = A at *
    simp [T, po]
    rw [pl]
    simp [hh, lt, backArgs_eq, List.range_succ]
theorem put_run {n k : Nat} (hn : n ≤ 1000) (hk : k ≤ 400000) (a0 a3 a4 a5 : Sl) {t t' : Tab} {lines : List (List Int)} (h : PutRun n k t lines t') : ∀ (s2 : Sl), t.length + lines.length < 16777216 →
    ∃ s2', loopF (.nm 2) b3_settled (lines.map T) [a0, .od (tabD t), s2, a3, a4, a5] = .ok (.nx [a0, .od (tabD t'), s2', a3, a4, a5]) := by
  induction h with
  | nil t => exact fun s2 _ => ⟨s2, rfl⟩
  | @cons t t' line fin lines hl hb hf e ho _ ih =>
    intro s2 hz
    rw [List.length_cons] at hz
    obtain ⟨s2', q⟩ := ih (.sh (T line)) (by have := addT_len t fin; omega)
    refine ⟨s2', ?_⟩
    have po := put_ok t line fin hn hk (by omega) hl hb hf e ho
    rw [← q]
    simp only [T] at po
    generalize tabD t = A at *
    generalize tabD (addT t fin) = B at *
    simp
    unfold b3_settled
    simp [po]
theorem red_run {n k : Nat} (hn : n ≤ 1000) (hk : k ≤ 400000) (a0 a1 a3 a4 : Sl) {lows : List (List Int)} {line fin : List Int} (h : RedRun n k lows line fin) : ∀ (s5 : Sl),
    ∃ s5', loopF (.nm 5) b1_settled (lows.map T) [a0, a1, .sh (T line), a3, a4, s5] = .ok (.nx [a0, a1, .sh (T fin), a3, a4, s5']) := by
  induction h with
  | nil line => exact fun s5 => ⟨s5, rfl⟩
  | @cons low line fin lows h eh hl hl2 hb hb2 hr _ ih =>
    intro s5
    obtain ⟨s5', q⟩ := ih (.sh (T low))
    refine ⟨s5', ?_⟩
    have hh := head_ok low (by omega)
    rw [eh] at hh
    have hp := (hd_some eh).1
    have co := cleared_ok line low h (by omega) (by omega) (by omega) k hb k hb2 (by omega) hr
    rw [← q]
    simp only [T, optI] at hh co
    simp [T]
    unfold b1_settled
    simp [hh, co]
theorem fin_run {n k : Nat} (hn : n ≤ 1000) (hk : k ≤ 400000) (a0 : Sl) {t : Tab} {ps : List Nat} {found res : List (List Int)} (h : FinRun n k t ps found res) : ∀ (s2 s4 s5 : Sl), found.length + ps.length < 16777216 →
    ∃ s2' s4' s5', loopF (.nm 4) b2_settled (I (ps.map fun (p : Nat) => (p : Int))) [a0, .od (tabD t), s2, .ol (found.map T), s4, s5] = .ok (.nx [a0, .od (tabD t), s2', .ol (res.map T), s4', s5']) := by
  induction h with
  | nil found => exact fun s2 s4 s5 _ => ⟨s2, s4, s5, rfl⟩
  | @cons p ps row fin found res eg hr _ ih =>
    intro s2 s4 s5 hz
    rw [List.length_cons] at hz
    obtain ⟨s5a, q1⟩ := red_run hn hk a0 (.od (tabD t)) .no (.sh (.int p)) hr s5
    obtain ⟨s2', s4', s5', q⟩ := ih (.sh (T fin)) (.sh (.int p)) s5a (by simp; omega)
    refine ⟨s2', s4', s5', ?_⟩
    have gk := getK_tab p t
    rw [eg] at gk
    rw [← q]
    have lz : (found.map T).length < 16777216 := by simp; omega
    have ef : (found ++ [fin]).map T = found.map T ++ [T fin] := by simp
    rw [ef]
    simp only [T, Option.map_some] at gk q1 lz ⊢
    generalize tabD t = A at *
    generalize found.map (fun ys => PyData.tuple (ys.map PyData.int)) = B at *
    simp [I]
    unfold b2_settled
    simp [gk]
    rw [q1]
    simp [lz]
theorem settled_ok {n k k2 : Nat} (hn : n ≤ 1000) (hk : k ≤ 400000) (hk2 : k2 ≤ 400000) (lines : List (List Int)) (hz : lines.length ≤ 1000000) {t : Tab} (h : PutRun n k [] lines t) {ps : List Nat} (hps : sortI (t.map fun e => (e.1 : Int)) = ps.map fun (p : Nat) => (p : Int)) {res : List (List Int)} (hf : FinRun n k2 t ps [] res) (hpl : ps.length ≤ 1000000) :
    f_settled [.ol (lines.map T)] = .ok (.ol (res.map T), [.ol (lines.map T)]) := by
  obtain ⟨s2, q1⟩ := put_run hn hk .no .no .no .no h .no (by simp; omega)
  obtain ⟨s2', s4', s5', q2⟩ := fin_run hn hk2 (.ol (lines.map T)) hf s2 .no .no (by simp; omega)
  have ek : (tabD t).map (fun kv => datK kv.1) = (t.map fun e => (e.1 : Int)).map PyData.int := by
    unfold tabD
    rw [List.map_map, List.map_map]
    rfl
  have es := sortedD_ints (t.map fun e => (e.1 : Int))
  rw [hps, ← ek] at es
  unfold f_settled
  rw [run_eq]
  have e0 : tabD [] = [] := rfl
  rw [e0] at q1
  simp only [I, List.map_nil] at q2
  generalize lines.map T = L at *
  generalize tabD t = A at *
  generalize hq : (ps.map fun (p : Nat) => (p : Int)).map PyData.int = PS at *
  simp
  rw [q1]
  simp [es]
  rw [q2]
  simp [backArgs_eq, List.range_succ]
/-- a comprehension over whole numbers that makes whole numbers -/
theorem comp_ints {tg : Tgt} {fe : EvF} {own : List Nat} {E : Lo} (P : Int → Int → Prop) (xs : List Int) (hl : xs.length ≤ 16777216) (h : ∀ x ∈ xs, ∃ v : Int, P x v ∧ ∃ e1, bindT tg (.int x) E = some e1 ∧ fe e1 = .ok (.sh (.int v), e1) ∧ wipeE e1 own = E) :
    ∃ g : Int → Int, (∀ x ∈ xs, P x (g x)) ∧ compF tg fYes fe own (xs.map PyData.int) [] E = .ok ((xs.map g).map PyData.int, E) := by
  have h' : ∀ x : Int, ∃ v : Int, x ∈ xs → P x v ∧ ∃ e1, bindT tg (.int x) E = some e1 ∧ fe e1 = .ok (.sh (.int v), e1) ∧ wipeE e1 own = E := by
    intro x
    by_cases hx : x ∈ xs
    · obtain ⟨v, hv⟩ := h x hx
      exact ⟨v, fun _ => hv⟩
    · exact ⟨0, fun q => absurd q hx⟩
  obtain ⟨g, hg⟩ := Classical.axiomOfChoice h'
  refine ⟨g, fun x hx => (hg x hx).1, ?_⟩
  have hc := comp_map (tg := tg) (ft := fYes) (fe := fe) (own := own) (E := E) (fun d => match d with | .int x => .int (g x) | d => d) (xs.map PyData.int) [] (by simp; omega) ?_
  · rw [hc, List.nil_append]
    congr 2
    rw [List.map_map, List.map_map]
    rfl
  · intro d hd
    obtain ⟨x, hx, rfl⟩ := List.mem_map.mp hd
    obtain ⟨_, e1, q1, q2, q3⟩ := hg x hx
    exact ⟨e1, _, e1, q1, rfl, q2, e1, rfl, q3⟩
/-- the same over pairs -/
theorem comp_pairs {tg : Tgt} {fe : EvF} {own : List Nat} {E : Lo} (g : Int → Int → Int) (xs ys : List Int) (hl : xs.length ≤ 16777216) (h : ∀ x ∈ xs, ∀ y ∈ ys, ∃ e1, bindT tg (.tuple [.int x, .int y]) E = some e1 ∧ fe e1 = .ok (.sh (.int (g x y)), e1) ∧ wipeE e1 own = E) :
    compF tg fYes fe own (zipD (xs.map PyData.int) (ys.map PyData.int)) [] E = .ok ((List.zipWith g xs ys).map PyData.int, E) := by
  have hc := comp_map (tg := tg) (ft := fYes) (fe := fe) (own := own) (E := E) (fun d => match d with | .tuple [.int a, .int b] => .int (g a b) | d => d) (zipD (xs.map PyData.int) (ys.map PyData.int)) [] (by rw [zipD_ints]; simp; omega) ?_
  · rw [hc, List.nil_append]
    congr 2
    rw [zipD_ints, List.map_map, ← List.map_uncurry_zip_eq_zipWith, List.map_map]
    rfl
  · intro d hd
    rw [zipD_ints] at hd
    obtain ⟨⟨a, b⟩, hp, rfl⟩ := List.mem_map.mp hd
    obtain ⟨e1, q1, q2, q3⟩ := h a (List.of_mem_zip hp).1 b (List.of_mem_zip hp).2
    exact ⟨e1, _, e1, q1, rfl, q2, e1, rfl, q3⟩
/-- a comprehension that picks -/
theorem comp_filter {tg : Tgt} {ft : EvT} {fe : EvF} {own : List Nat} {E : Lo} (p : D → Bool) (g : D → D) : ∀ (ds acc : List D), ds.length + acc.length ≤ 16777216 →
    (∀ d ∈ ds, ∃ e1, bindT tg d E = some e1 ∧ ft e1 = .ok (p d, e1) ∧ (p d = true → fe e1 = .ok (.sh (g d), e1)) ∧ wipeE e1 own = E) → compF tg ft fe own ds acc E = .ok (acc ++ (ds.filter p).map g, E)
  | [], acc, _, _ => by simp [compF]
  | d :: ds, acc, hl, h => by
    obtain ⟨e1, q1, q2, q3, q4⟩ := h d List.mem_cons_self
    rw [List.length_cons] at hl
    by_cases hp : p d = true
    · have ih := comp_filter p g ds (acc ++ [g d]) (by simp; omega) fun x hx => h x (List.mem_cons_of_mem _ hx)
      show (Res.ofO (bindT tg d E)).bind _ = _
      rw [q1]
      show (ft e1).bind _ = _
      rw [q2, hp]
      show (fe e1).bind _ = _
      rw [q3 hp]
      show (if acc.length < 16777216 then compF tg ft fe own ds (acc ++ [g d]) (wipeE e1 own) else .bad) = _
      rw [if_pos (by omega), q4, ih, List.filter_cons_of_pos hp]
      simp
    · have ih := comp_filter p g ds acc (by omega) fun x hx => h x (List.mem_cons_of_mem _ hx)
      have hp : p d = false := by simpa using hp
      show (Res.ofO (bindT tg d E)).bind _ = _
      rw [q1]
      show (ft e1).bind _ = _
      rw [q2, hp]
      show compF tg ft fe own ds acc (wipeE e1 own) = _
      rw [q4, ih, List.filter_cons_of_neg (by rw [hp]; decide)]
/-- a loop that may return early -/
theorem loop_chk {tg : Tgt} {b : EvS} (Iv : Nat → Lo → Prop) (J : Lo → Prop) (r : Sl) (p : Nat → Prop) (ds : List D) {env : Lo} (h0 : Iv 0 env)
    (hs : ∀ i d e, ds[i]? = some d → Iv i e → ∃ e1 e2, bindT tg d e = some e1 ∧ ((p i ∧ b e1 = .ok (.nx e2) ∧ Iv (i + 1) e2) ∨ (¬ p i ∧ b e1 = .ok (.rt r e2) ∧ J e2))) :
    ∃ e', ((∀ i, i < ds.length → p i) ∧ loopF tg b ds env = .ok (.nx e') ∧ Iv ds.length e') ∨ ((¬ ∀ i, i < ds.length → p i) ∧ loopF tg b ds env = .ok (.rt r e') ∧ J e') := by
  have key : ∀ (ds : List D) (k : Nat) (env : Lo), Iv k env → (∀ i d e, ds[i]? = some d → Iv (k + i) e → ∃ e1 e2, bindT tg d e = some e1 ∧ ((p (k + i) ∧ b e1 = .ok (.nx e2) ∧ Iv (k + i + 1) e2) ∨ (¬ p (k + i) ∧ b e1 = .ok (.rt r e2) ∧ J e2))) →
      ∃ e', ((∀ i, i < ds.length → p (k + i)) ∧ loopF tg b ds env = .ok (.nx e') ∧ Iv (k + ds.length) e') ∨ ((¬ ∀ i, i < ds.length → p (k + i)) ∧ loopF tg b ds env = .ok (.rt r e') ∧ J e') := by
    intro ds
    induction ds with
    | nil => intro k env h _; exact ⟨env, .inl ⟨fun i hi => absurd hi (by simp), rfl, h⟩⟩
    | cons d ds ih =>
      intro k env h hs
      obtain ⟨e1, e2, q1, q2⟩ := hs 0 d env rfl h
      have lc : loopF tg b (d :: ds) env = (b e1).bind (loopC2 tg b ds) := by rw [loop_cons, q1]; rfl
      rcases q2 with ⟨pp, q2, q3⟩ | ⟨pp, q2, q3⟩
      · obtain ⟨e', w⟩ := ih (k + 1) e2 q3 fun i d e hd hi => by
          have := hs (i + 1) d e (by simpa using hd) (by rw [show k + (i + 1) = k + 1 + i by omega]; exact hi)
          rw [show k + (i + 1) + 1 = k + 1 + i + 1 by omega, show k + (i + 1) = k + 1 + i by omega] at this
          exact this
        refine ⟨e', ?_⟩
        rw [lc, q2]
        rcases w with ⟨w1, w2, w3⟩ | ⟨w1, w2, w3⟩
        · refine .inl ⟨fun i hi => ?_, w2, by rw [List.length_cons, show k + (ds.length + 1) = k + 1 + ds.length by omega]; exact w3⟩
          match i, hi with
          | 0, _ => exact pp
          | i + 1, hi =>
            rw [show k + (i + 1) = k + 1 + i by omega]
            exact w1 i (by simpa using hi)
        · refine .inr ⟨fun w => w1 fun i hi => ?_, w2, w3⟩
          have := w (i + 1) (by simpa using hi)
          rwa [show k + (i + 1) = k + 1 + i by omega] at this
      · refine ⟨e2, .inr ⟨fun w => pp (w 0 (by simp)), ?_, q3⟩⟩
        rw [lc, q2]
        rfl
  have := key ds 0 env h0 fun i d e hd hi => by simpa using hs i d e hd (by simpa using hi)
  simpa using this
/-! ### the law's own lines -/
theorem divD_s {i j : Int} (h0 : 0 < j) (h : j < 1073741824) : divD (.int i) (.int j) = some (.sh (.int (i / j))) := by
  rw [divD_int (divOk_small (by omega) (by omega)), Int.fdiv_eq_ediv_of_nonneg _ (by omega)]
theorem dvOk_s {i j : Int} (h0 : 0 < j) (h : j < 1073741824) : divOk i j = true := divOk_small (by omega) (by omega)
theorem entry_ok (x w : Int) (hx : 0 ≤ x ∧ x < 715827883) (hw : 0 ≤ w ∧ w < 5) : ∃ v : Int, f_l_entry [.sh (.int x), .sh (.int w)] = .ok (.sh (.int v), [.sh (.int x), .sh (.int w)]) ∧ v.natAbs ≤ 10 ^ 30 := by
  have hw : w = 0 ∨ w = 1 ∨ w = 2 ∨ w = 3 ∨ w = 4 := by omega
  rcases hw with rfl | rfl | rfl | rfl | rfl
  · refine ⟨x % 19 - 9, ?_, by omega⟩
    unfold f_l_entry
    rw [run_eq]
    simp [eqD_ok, eqv_int, modD_int, backArgs_eq, List.range_succ]
  · have : ∃ z : Int, atI [PyData.int 0, PyData.int 0, PyData.int 1, PyData.int (-1), PyData.int (x / 4 % 7 - 3)] (x % 5) = some (.int z) ∧ -3 ≤ z ∧ z ≤ 3 := by
      have h5 : x % 5 = 0 ∨ x % 5 = 1 ∨ x % 5 = 2 ∨ x % 5 = 3 ∨ x % 5 = 4 := by omega
      rcases h5 with h | h | h | h | h <;> rw [h]
      · exact ⟨0, rfl, by omega, by omega⟩
      · exact ⟨0, rfl, by omega, by omega⟩
      · exact ⟨1, rfl, by omega, by omega⟩
      · exact ⟨-1, rfl, by omega, by omega⟩
      · exact ⟨x / 4 % 7 - 3, rfl, by omega, by omega⟩
    obtain ⟨z, e, h1, h2⟩ := this
    refine ⟨z, ?_, by omega⟩
    unfold f_l_entry
    rw [run_eq]
    simp [eqD_ok, eqv_int, modD_int, divD_s, e, backArgs_eq, List.range_succ]
  · refine ⟨x % 1999999999 - 999999999, ?_, by omega⟩
    unfold f_l_entry
    rw [run_eq]
    simp [eqD_ok, eqv_int, modD_int, backArgs_eq, List.range_succ]
  · have b0 : Bd 30 x := Bd.range (m := 715827883) (by omega) (by omega)
    have b2 := b0.mul b0
    have b3 := b2.mul b0
    have m1 := b0.mOk b0 (by omega)
    have m2 := b2.mOk b0 (by omega)
    have m3 := b3.mOk b0 (by omega)
    obtain ⟨P, hP⟩ : ∃ P : Int, P = 10 ^ 30 := ⟨_, rfl⟩
    obtain ⟨Q, hQ⟩ : ∃ Q : Int, Q = 10 ^ 29 := ⟨_, rfl⟩
    have p1 : powD (.int 10) (.int 30) = some (.sh (.int P)) := by rw [hP]; exact powD_int ⟨by omega, by omega, by decide⟩
    have p2 : powD (.int 10) (.int 29) = some (.sh (.int Q)) := by rw [hQ]; exact powD_int ⟨by omega, by omega, by decide⟩
    have pP : (0 : Int) < P := by rw [hP]; decide
    have m4 : mulOk 5 Q = true := by rw [hQ]; exact (Bd.lit (k := 3) (by decide)).mOk (Bd.lit (k := 100) (by decide)) (by omega)
    obtain ⟨y, hy⟩ : ∃ y : Int, y = x * x * x * x % P - 5 * Q := ⟨_, rfl⟩
    have by1 : -(5 * 10 ^ 29) ≤ y ∧ y < 5 * 10 ^ 29 := by
      have q1 := Int.emod_nonneg (x * x * x * x) (show P ≠ 0 by omega)
      have q2 := Int.emod_lt_of_pos (x * x * x * x) pP
      rw [hy, hQ]
      rw [hP] at q2
      rw [hP] at q1 ⊢
      generalize x * x * x * x % 10 ^ 30 = R at *
      omega
    have m5 : mulOk y (x / 7 % 3) = true := (Bd.range (k := 100) (m := 5 * 10 ^ 29) (by omega) (by omega) (by decide)).mOk (Bd.range (k := 3) (m := 3) (by omega) (by omega)) (by omega)
    refine ⟨y * (x / 7 % 3), ?_, ?_⟩
    · unfold f_l_entry
      rw [run_eq]
      simp [eqD_ok, eqv_int, modD_int, divD_s, mulD_int m1, mulD_int m2, mulD_int m3, p1, p2, pP, mulD_int m4, ← hy, mulD_int m5, backArgs_eq, List.range_succ]
    · have h3 : x / 7 % 3 = 0 ∨ x / 7 % 3 = 1 ∨ x / 7 % 3 = 2 := by omega
      rcases h3 with h | h | h <;> rw [h] <;> omega
  · refine ⟨6 * (x % 13 - 6), ?_, by omega⟩
    have m1 : mulOk 6 (x % 13 - 6) = true := mulOk_left (by omega) (by omega)
    unfold f_l_entry
    rw [run_eq]
    simp [eqD_ok, eqv_int, modD_int, mulD_int m1, backArgs_eq, List.range_succ]
theorem natAbs_lin (a b x y : Int) (B : Nat) (ha : -4 ≤ a ∧ a ≤ 4) (hb : -3 ≤ b ∧ b ≤ 3) (hx : x.natAbs ≤ B) (hy : y.natAbs ≤ B) : (a * x + b * y).natAbs ≤ 7 * B := by
  have h1 : (a * x).natAbs ≤ 4 * B := by rw [Int.natAbs_mul]; exact Nat.mul_le_mul (by omega) hx
  have h2 : (b * y).natAbs ≤ 3 * B := by rw [Int.natAbs_mul]; exact Nat.mul_le_mul (by omega) hy
  have := Int.natAbs_add_le (a * x) (b * y)
  omega
theorem line_ok (ns : List Int) (k n : Nat) (hk : k ≤ 100) (hn : n ≤ 100) (lines : List (List Int)) (hz : lines.length ≤ 100000) (B : Nat) (hB : 10 ^ 30 ≤ B) (hB2 : B < 2 ^ 400000) (hl : ∀ l ∈ lines, l.length = n ∧ ∀ x ∈ l, x.natAbs ≤ B) :
    ∃ ys : List Int, f_l_line [.sc ns, .sh (.int k), .sh (.int n), .ol (lines.map T)] = .ok (.sh (T ys), [.sc ns, .sh (.int k), .sh (.int n), .ol (lines.map T)]) ∧ ys.length = n ∧ (∀ y ∈ ys, y.natAbs ≤ 7 * B) ∧ (lines = [] → ∀ y ∈ ys, y.natAbs ≤ 10 ^ 30) := by
  obtain ⟨c, hc⟩ := cell_at ns (1 + (k : Int) % 62) (by omega)
  obtain ⟨xs, hs, xl, xb⟩ := stream c k (by omega) (by omega) (n + 2) (by omega)
  match xs, xl, xb, hs with
  | [], xl, _, _ => simp at xl
  | [_], xl, _, _ => simp at xl
  | x0 :: x1 :: xs, xl, xb, hs =>
    have b0 := xb x0 (by simp)
    have b1 := xb x1 (by simp)
    have xl : xs.length = n := by simpa using xl
    have g0 : atI (PyData.int x0 :: PyData.int x1 :: xs.map PyData.int) 0 = some (.int x0) := at_nat (n := 0) rfl
    have g1 : atI (PyData.int x0 :: PyData.int x1 :: xs.map PyData.int) 1 = some (.int x1) := at_nat (n := 1) rfl
    have ct : cutG (PyData.int x0 :: PyData.int x1 :: xs.map PyData.int) (some 2) none = xs.map PyData.int := cutG_from (PyData.int x0 :: PyData.int x1 :: xs.map PyData.int) 2
    simp at hs
    by_cases h : 1 < lines.length ∧ x0 % 8 < 3
    · have hp : (0 : Int) < lines.length := by omega
      have h1' : (1 : Int) < lines.length := by omega
      have pick : ∀ i : Int, 0 ≤ i → i < lines.length → ∃ l, lines[i.toNat]? = some l ∧ l ∈ lines ∧ atI (lines.map T) i = some (T l) := by
        intro i h1 h2
        have h3 : i.toNat < lines.length := by omega
        refine ⟨lines[i.toNat], List.getElem?_eq_getElem h3, List.getElem_mem h3, at_int h1 ?_⟩
        rw [List.getElem?_map, List.getElem?_eq_getElem h3]; rfl
      obtain ⟨l1, _, m1, p1⟩ := pick (x1 % lines.length) (Int.emod_nonneg _ (by omega)) (Int.emod_lt_of_pos _ hp)
      obtain ⟨l2, _, m2, p2⟩ := pick (x1 / 64 % lines.length) (Int.emod_nonneg _ (by omega)) (Int.emod_lt_of_pos _ hp)
      obtain ⟨q1, q2⟩ := hl l1 m1
      obtain ⟨r1, r2⟩ := hl l2 m2
      obtain ⟨a, ha⟩ : ∃ a : Int, a = x1 / 4096 % 9 - 4 := ⟨_, rfl⟩
      obtain ⟨b, hb⟩ : ∃ b : Int, b = x1 / 40960 % 7 - 3 := ⟨_, rfl⟩
      have cc := comp_pairs (tg := .tp [10, 11]) (fe := e2_l_line) (own := [10, 11]) (E := [.sc ns, .sh (.int k), .sh (.int n), .ol (lines.map T), .ol (PyData.int x0 :: PyData.int x1 :: xs.map PyData.int), .sh (.int (x0 / 8 % 5)), .no, .no, .sh (.int a), .sh (.int b), .no, .no])
        (fun x y => a * x + b * y) l1 l2 (by omega) (fun x hx y hy => by
          have ma : mulOk a x = true := (Bd.range (k := 3) (m := 4) (by omega) (by omega)).mOk (show Bd 400000 x from Nat.lt_of_le_of_lt (q2 x hx) hB2) (by omega)
          have mb : mulOk b y = true := (Bd.range (k := 3) (m := 4) (by omega) (by omega)).mOk (show Bd 400000 y from Nat.lt_of_le_of_lt (r2 y hy) hB2) (by omega)
          refine ⟨_, rfl, ?_, rfl⟩
          unfold e2_l_line
          simp [mulD_int ma, mulD_int mb])
      refine ⟨List.zipWith (fun x y => a * x + b * y) l1 l2, ?_, by simp [q1, r1], fun y hy => ?_, fun e => by rw [e] at h; simp at h⟩
      · unfold f_l_line
        rw [run_eq]
        simp only [T] at p1 p2 cc ⊢
        simp [modD_int hp, modD_int, hc, hs, g0, g1, divD_s, h, h1', gtD, ltD, p1, p2, hp, ← ha, ← hb]
        rw [cc]
        simp [backArgs_eq, List.range_succ]
      · obtain ⟨i, hi, rfl⟩ := List.mem_iff_getElem.mp hy
        simp at hi
        simp only [List.getElem_zipWith]
        exact natAbs_lin a b _ _ B (by omega) (by omega) (q2 _ (List.getElem_mem (by omega))) (r2 _ (List.getElem_mem (by omega)))
    · obtain ⟨w, hw⟩ : ∃ w : Int, w = x0 / 8 % 5 := ⟨_, rfl⟩
      obtain ⟨g, hg, cc⟩ := comp_ints (tg := .nm 10) (fe := e1_l_line) (own := [10]) (E := [.sc ns, .sh (.int k), .sh (.int n), .ol (lines.map T), .ol (PyData.int x0 :: PyData.int x1 :: xs.map PyData.int), .sh (.int w), .no, .no, .no, .no, .no, .no])
        (fun _ v => v.natAbs ≤ 10 ^ 30) xs (by omega) (fun x hx => by
          have bx := xb x (by simp [hx])
          obtain ⟨v, e, hv⟩ := entry_ok x w bx (by omega)
          refine ⟨v, hv, _, rfl, ?_, rfl⟩
          unfold e1_l_line
          simp [e])
      refine ⟨xs.map g, ?_, by simp [xl], fun y hy => ?_, fun _ y hy => ?_⟩
      · unfold f_l_line
        rw [run_eq]
        simp only [T] at cc ⊢
        rcases Classical.not_and_iff_not_or_not.mp h with h | h
        · have h1' : ¬ (1 : Int) < lines.length := by omega
          simp [modD_int, hc, hs, g0, g1, divD_s, gtD, ltD, h1', ← hw]
          rw [ct, cc]
          simp [backArgs_eq, List.range_succ]
        · by_cases h1 : 1 < lines.length
          · have h1' : (1 : Int) < lines.length := by omega
            simp [modD_int, hc, hs, g0, g1, divD_s, gtD, ltD, h1', h, ← hw]
            rw [ct, cc]
            simp [backArgs_eq, List.range_succ]
          · have h1' : ¬ (1 : Int) < lines.length := by omega
            simp [modD_int, hc, hs, g0, g1, divD_s, gtD, ltD, h1', ← hw]
            rw [ct, cc]
            simp [backArgs_eq, List.range_succ]
      · obtain ⟨x, hx, rfl⟩ := List.mem_map.mp hy
        have := hg x hx
        omega
      · obtain ⟨x, hx, rfl⟩ := List.mem_map.mp hy
        exact hg x hx
theorem lines_loop (ns : List Int) (n : Nat) (hn : n ≤ 100) (a1 a3 : Sl) (m : Nat) (hm : m ≤ 60) : ∃ (lines : List (List Int)) (s5 : Sl), loopF (.nm 5) b1_l_lines (rngD 0 m) [.sc ns, a1, .sh (.int n), a3, .ol [], .no] = .ok (.nx [.sc ns, a1, .sh (.int n), a3, .ol (lines.map T), s5]) ∧ lines.length = m ∧ ∀ l ∈ lines, l.length = n ∧ ∀ x ∈ l, x.natAbs ≤ 10 ^ 30 * 7 ^ m := by
  obtain ⟨e', q, lines, s5, rfl, hl, hx⟩ := loop_inv (tg := .nm 5) (b := b1_l_lines) (fun i e => ∃ (lines : List (List Int)) (s5 : Sl), e = [.sc ns, a1, .sh (.int n), a3, .ol (lines.map T), s5] ∧ lines.length = i ∧ ∀ l ∈ lines, l.length = n ∧ ∀ x ∈ l, x.natAbs ≤ 10 ^ 30 * 7 ^ i)
    (rngD 0 m) (env := [.sc ns, a1, .sh (.int n), a3, .ol [], .no]) ⟨[], .no, rfl, rfl, nofun⟩ (by
      rintro i d _ hd ⟨lines, s5, rfl, hl, hx⟩
      obtain ⟨hi, rfl⟩ := rng_get hd
      have h7 : 7 ^ i ≤ 7 ^ 60 := Nat.pow_le_pow_right (by omega) (by omega)
      have h1 := Nat.pow_pos (n := i) (show 0 < 7 by decide)
      obtain ⟨ys, e, yl, yb, _⟩ := line_ok ns i n (by omega) hn lines (by omega) (10 ^ 30 * 7 ^ i) (by omega) (Nat.lt_of_le_of_lt (Nat.mul_le_mul_left _ h7) (Nat.lt_of_lt_of_le (show 10 ^ 30 * 7 ^ 60 < 2 ^ 300 by decide) (Nat.pow_le_pow_right (by decide) (by decide)))) hx
      refine ⟨_, [.sc ns, a1, .sh (.int n), a3, .ol ((lines ++ [ys]).map T), .sh (.int i)], rfl, .inl ?_, lines ++ [ys], _, rfl, by simp [hl], fun l hm => ?_⟩
      · have lz : lines.length < 16777216 := by omega
        unfold b1_l_lines
        simp only [T] at e ⊢
        simp [e, lz]
      · have e7 : 10 ^ 30 * 7 ^ (i + 1) = 7 * (10 ^ 30 * 7 ^ i) := by
          have e0 : 7 ^ (i + 1) = 7 ^ i * 7 := Nat.pow_succ 7 i
          rw [e0, ← Nat.mul_assoc, Nat.mul_comm]
        rw [e7]
        rcases List.mem_append.mp hm with hm | hm
        · exact ⟨(hx l hm).1, fun x h => by have := (hx l hm).2 x h; omega⟩
        · rw [List.mem_singleton] at hm
          subst hm
          exact ⟨yl, yb⟩)
  rw [rng_len] at hl hx
  exact ⟨lines, s5, q, hl, hx⟩
/-- the law's lines -/
structure Lines (n : Nat) (lines : List (List Int)) : Prop where
  n1 : 1 ≤ n
  n7 : n ≤ 7
  le : lines.length ≤ 60
  len : ∀ l ∈ lines, l.length = n
  bd : ∀ l ∈ lines, ∀ x ∈ l, Bd 270 x
theorem lines_ok (ns : List Int) : ∃ (n : Nat) (lines : List (List Int)), f_l_lines [.sc ns] = .ok (.sh (.tuple [.int n, .list (lines.map T)]), [.sc ns]) ∧ Lines n lines := by
  obtain ⟨c, hc⟩ := cell_at ns 0 (by omega)
  obtain ⟨n, hn⟩ : ∃ n : Nat, (n : Int) = 1 + c % 7 := ⟨(1 + c % 7).toNat, by omega⟩
  obtain ⟨m, hm⟩ : ∃ m : Nat, (m : Int) = if c / 63 % 16 = 5 then 9 + c / 1008 % 52 else c / 7 % 9 := by
    split
    · exact ⟨(9 + c / 1008 % 52).toNat, by omega⟩
    · exact ⟨(c / 7 % 9).toNat, by omega⟩
  have m60 : m ≤ 60 := by split at hm <;> omega
  obtain ⟨lines, s5, q, hl, hx⟩ := lines_loop ns n (by omega) (.sh (.int c)) (.sh (.int m)) m m60
  refine ⟨n, lines, ?_, ⟨by omega, by omega, by omega, fun l h => (hx l h).1, fun l h x hx' => ?_⟩⟩
  · unfold f_l_lines
    rw [run_eq]
    have h1 : (m : Int) < 4611686018427387904 := by omega
    have h2 : -4611686018427387904 ≤ (m : Int) := by omega
    by_cases h5 : c / 63 % 16 = 5
    · rw [if_pos h5] at hm
      simp [modD_int, hc, divD_s, eqD_ok, eqv_int, h5, ← hm, ← hn, h1, h2]
      rw [q]
      simp [backArgs_eq, List.range_succ]
    · rw [if_neg h5] at hm
      have h5' : (c / 63 % 16 == 5) = false := by simpa using h5
      simp [modD_int, hc, divD_s, eqD_ok, eqv_int, h5', ← hm, ← hn, h1, h2]
      rw [q]
      simp [backArgs_eq, List.range_succ]
  · have := (hx l h).2 x hx'
    have h7 : 7 ^ m ≤ 7 ^ 60 := Nat.pow_le_pow_right (by omega) m60
    have := Nat.mul_le_mul_left (10 ^ 30) h7
    have h9 : 10 ^ 30 * 7 ^ 60 < 2 ^ 270 := by decide
    unfold Bd
    omega
/-! ### the law's eye: settled -/
theorem l_head_ok (xs : List Int) (hl : xs.length ≤ 1000000) : f_l_head [.sh (T xs)] = .ok (optI (headO xs), [.sh (T xs)]) := by
  obtain ⟨e', q, s2, rfl⟩ := loop_inv (tg := .nm 2) (b := b1_l_head) (fun i e => ∃ s2, e = [.sh (T xs), optI (hd xs i), s2]) (rngD 0 xs.length) (env := [.sh (T xs), .sh .none, .no]) ⟨.no, rfl⟩ (by
    rintro i d _ hd ⟨s2, rfl⟩
    obtain ⟨hi, rfl⟩ := rng_get hd
    have ex : xs[i]? = some xs[i] := List.getElem?_eq_getElem hi
    have g : atI (xs.map PyData.int) (i : Int) = some (.int xs[i]) := at_nat (by rw [List.getElem?_map, ex]; rfl)
    have eh : EN.hd xs (i + 1) = if xs[i] = 0 then EN.hd xs i else some i := by
      show (if xs[i]?.getD 0 = 0 then EN.hd xs i else some i) = _
      rw [ex, Option.getD_some]
    refine ⟨_, [.sh (T xs), optI (EN.hd xs (i + 1)), .sh (.int i)], rfl, .inl ?_, _, rfl⟩
    rw [eh]
    unfold b1_l_head
    by_cases h0 : xs[i] = 0
    · simp [T, g, neD_ok, eqv_int, h0]
    · have h0' : (xs[i] == 0) = false := by simpa using h0
      cases EN.hd xs i <;> simp [T, g, neD_ok, eqv_int, h0', h0, optI])
  unfold f_l_head
  rw [run_eq]
  simp only [T] at q ⊢
  have h1 : (xs.length : Int) < 4611686018427387904 := by omega
  have h2 : -4611686018427387904 ≤ (xs.length : Int) := by omega
  simp [h1, h2]
  rw [q]
  rw [rng_len]
  unfold headO
  cases EN.hd xs xs.length <;> simp [optI, backArgs_eq, List.range_succ]
theorem l_gcd_loop : ∀ (n : Nat) (a b : Int) (s0 s2 s4 : Sl), 0 ≤ a → 0 ≤ b → b.toNat ≤ n → ∃ s4', whileF c1_l_divisor b2_l_divisor (n + 1) [s0, .sh (.int a), s2, .sh (.int b), s4] = .ok (.nx [s0, .sh (.int (Int.gcd a b)), s2, .sh (.int 0), s4'])
  | n, a, b, s0, s2, s4, ha, hb, hn => by
    rw [while_succ]
    by_cases h0 : b = 0
    · subst h0
      refine ⟨s4, ?_⟩
      have : (a.natAbs : Int) = a := by omega
      unfold c1_l_divisor
      simp [gtD, this]
    · have hm : a % b < b := Int.emod_lt_of_pos _ (by omega)
      have hm0 : 0 ≤ a % b := Int.emod_nonneg _ h0
      match n, hn with
      | 0, hn => omega
      | n + 1, hn =>
        obtain ⟨s4', ih⟩ := l_gcd_loop n b (a % b) s0 s2 (.sh (.int (a % b))) hb hm0 (by omega)
        refine ⟨s4', ?_⟩
        have eg : Int.gcd b (a % b) = Int.gcd a b := gcd_step ha hb
        rw [eg] at ih
        rw [← ih]
        have hp : 0 < b := by omega
        unfold c1_l_divisor b2_l_divisor
        simp [gtD, hp, modD_int hp]
theorem l_div_loop : ∀ (xs : List Int) (g : Nat) (s0 s2 s3 s4 : Sl), ∃ s2' s3' s4', loopF (.nm 2) b3_l_divisor (I xs) [s0, .sh (.int g), s2, s3, s4] = .ok (.nx [s0, .sh (.int (contF g xs)), s2', s3', s4'])
  | [], g, s0, s2, s3, s4 => ⟨_, _, _, rfl⟩
  | x :: xs, g, s0, s2, s3, s4 => by
    obtain ⟨w4, h⟩ := l_gcd_loop x.natAbs g x.natAbs s0 (.sh (.int x)) s4 (by omega) (by omega) (by omega)
    obtain ⟨s2', s3', s4', ih⟩ := l_div_loop xs (Int.gcd g x) s0 (.sh (.int x)) (.sh (.int 0)) w4
    refine ⟨s2', s3', s4', ?_⟩
    have eg : Int.gcd (g : Int) (x.natAbs : Int) = Int.gcd g x := by simp [Int.gcd]
    rw [eg] at h
    rw [contF_cons, ← ih]
    have ea : (if x < 0 then -x else x) = (x.natAbs : Int) := by split <;> omega
    show loopF _ _ (PyData.int x :: I xs) _ = _
    simp
    unfold b3_l_divisor
    simp [ea]
    rw [natS_int (i := 3) (j := (x.natAbs : Int)) rfl, show ((x.natAbs : Int)).toNat = x.natAbs by omega, h]
    simp
theorem l_divisor_ok (xs : List Int) : f_l_divisor [.sh (T xs)] = .ok (.sh (.int (cont xs)), [.sh (T xs)]) := by
  obtain ⟨s2, s3, s4, q⟩ := l_div_loop xs 0 (.sh (T xs)) .no .no .no
  unfold f_l_divisor
  rw [run_eq]
  simp only [T, I] at q ⊢
  simp
  simp at q
  rw [q]
  simp [backArgs_eq, List.range_succ]
  rfl
theorem cont_one {xs : List Int} (h : ∀ d : Int, (∀ j, d ∣ fn xs j) → d ∣ 1) : cont xs = 1 := by
  have := h (cont xs) ((cont_dvd_fn _ xs).mp (Int.dvd_refl _))
  have := Int.natAbs_dvd_natAbs.mpr this
  simpa using this
theorem St.count {n : Nat} {F : List (Nat × List Int)} (h : St n F) {a : Nat × List Int} (ha : a ∈ F) : (F.filter fun b => decide (fn b.2 a.1 ≠ 0)) = [a] := by
  have o := h.ord
  have key : ∀ G : List (Nat × List Int), (∀ b ∈ G, b ∈ F) → (G.Pairwise fun a b => a.1 < b.1) → a ∈ G → (G.filter fun b => decide (fn b.2 a.1 ≠ 0)) = [a] := by
    intro G
    induction G with
    | nil => intro _ _ h; cases h
    | cons b G ih =>
      intro hs ho hm
      obtain ⟨p1, p2⟩ := List.pairwise_cons.mp ho
      rcases List.mem_cons.mp hm with rfl | hm
      · have p := h.pos a ha
        rw [List.filter_cons_of_pos (by simp; omega), List.filter_eq_nil_iff.mpr]
        intro c hc
        have := h.off c (hs c (List.mem_cons_of_mem _ hc)) a ha (by have := p1 c hc; omega)
        simp [this]
      · have := h.off b (hs b List.mem_cons_self) a ha (by have := p1 a hm; omega)
        rw [List.filter_cons_of_neg (by simp [this])]
        exact ih (fun c hc => hs c (List.mem_cons_of_mem _ hc)) p2 hm
  exact key F (fun b hb => hb) o ha
theorem at_fn {xs : List Int} {p : Nat} (h : p < xs.length) : atI (xs.map PyData.int) (p : Int) = some (.int (fn xs p)) := by
  refine at_nat ?_
  unfold fn
  rw [List.getElem?_map, List.getElem?_eq_getElem h]
  rfl
/-- a settled list, as the program tells it -/
abbrev LF (F : List (Nat × List Int)) : List D := F.map fun a => T a.2
theorem settled_eye {n : Nat} {F : List (Nat × List Int)} (h : St n F) (hn : n ≤ 1000) : f_l_is_settled [.ol (LF F), .sh (.int n)] = .ok (.sh (.bool true), [.ol (LF F), .sh (.int n)]) := by
  have hF := h.le
  -- each a line of whole numbers
  obtain ⟨e1, q1, s2, rfl⟩ := loop_inv (tg := .nm 2) (b := b7_l_is_settled) (fun i e => ∃ s2, e = [.no, .sh (.int n), s2, .no, .no, .no]) (LF F) (env := [.no, .sh (.int n), .no, .no, .no, .no]) ⟨.no, rfl⟩ (by
    rintro i d _ hd ⟨s2, rfl⟩
    have hm := List.mem_of_getElem? hd
    obtain ⟨a, ha, rfl⟩ := List.mem_map.mp hm
    have hl := h.len a ha
    refine ⟨_, [.no, .sh (.int n), .sh (T a.2), .no, .no, .no], rfl, .inl ?_, _, rfl⟩
    have cn := comp_none (tg := .nm 5) (ft := t5_l_is_settled) (fe := e6_l_is_settled) (own := [5]) (E := [.no, .sh (.int n), .sh (T a.2), .no, .no, .no]) (a.2.map PyData.int) [] (fun d hd => by
      obtain ⟨x, _, rfl⟩ := List.mem_map.mp hd
      refine ⟨_, [.no, .sh (.int n), .sh (T a.2), .no, .no, .sh (.int x)], rfl, ?_, rfl⟩
      unfold t5_l_is_settled
      simp)
    unfold b7_l_is_settled
    simp only [T] at cn ⊢
    simp [hl, neD_ok, eqv_int]
    rw [cn]
    simp [gtD])
  have cm := comp_map (tg := .nm 2) (ft := fYes) (fe := e4_l_is_settled) (own := [2]) (E := [.no, .sh (.int n), .no, .no, .no, .no]) (fun d => match d with | .tuple ds => (match headO ((intsOf ds).getD []) with | some p => .int (p : Int) | none => .none) | d => d) (LF F) [] (by simp; omega) (fun d hd => by
    obtain ⟨a, ha, rfl⟩ := List.mem_map.mp hd
    have hh := l_head_ok a.2 (by rw [h.len a ha]; omega)
    rw [h.head a ha] at hh
    refine ⟨_, .sh (.int a.1), [.no, .sh (.int n), .sh (T a.2), .no, .no, .no], rfl, rfl, ?_, [.no, .sh (.int n), .sh (T a.2), .no, .no, .no], ?_, rfl⟩
    · unfold e4_l_is_settled
      simp only [T, optI] at hh ⊢
      simp [hh]
    · simp [T, intsOf_map, h.head a ha])
  have em : (LF F).map (fun d => match d with | .tuple ds => (match headO ((intsOf ds).getD []) with | some p => PyData.int (p : Int) | none => .none) | d => d) = F.map fun a => PyData.int (a.1 : Int) := by
    rw [List.map_map]
    apply List.map_congr_left
    intro a ha
    show (match headO ((intsOf (a.2.map PyData.int)).getD []) with | some p => PyData.int (p : Int) | none => .none) = _
    rw [intsOf_map]
    show (match headO a.2 with | some p => PyData.int (p : Int) | none => .none) = _
    rw [h.head a ha]
  rw [em, List.nil_append] at cm
  obtain ⟨e3, q3, s4, rfl⟩ := loop_inv (tg := .nm 4) (b := b3_l_is_settled) (fun i e => ∃ s4, e = [.ol (LF F), .sh (.int n), s2, .ol (F.map fun a => PyData.int (a.1 : Int)), s4, .no]) (rngD 0 F.length) (env := [.ol (LF F), .sh (.int n), s2, .ol (F.map fun a => PyData.int (a.1 : Int)), .no, .no]) ⟨.no, rfl⟩ (by
    rintro i d _ hd ⟨s4, rfl⟩
    obtain ⟨hi, rfl⟩ := rng_get hd
    obtain ⟨a, ea⟩ : ∃ a, a = F[i] := ⟨_, rfl⟩
    have ha : a ∈ F := by rw [ea]; exact List.getElem_mem hi
    have gi : F[i]? = some a := by rw [ea]; exact List.getElem?_eq_getElem hi
    have g1 : atI (LF F) (i : Int) = some (T a.2) := at_nat (by rw [List.getElem?_map, gi]; rfl)
    have g2 : atI (F.map fun a => PyData.int (a.1 : Int)) (i : Int) = some (.int a.1) := at_nat (by rw [List.getElem?_map, gi]; rfl)
    have hl := h.len a ha
    have lt := h.lt ha
    have g3 := at_fn (xs := a.2) (p := a.1) (by omega)
    have pos := h.pos a ha
    have dv := l_divisor_ok a.2
    rw [cont_one (h.prim a ha)] at dv
    have cf := comp_filter (tg := .nm 2) (ft := t1_l_is_settled) (fe := e2_l_is_settled) (own := [2]) (E := [.no, .sh (.int n), .no, .ol (F.map fun a => PyData.int (a.1 : Int)), .sh (.int i), .no]) (fun d => match d with | .tuple ds => decide (fn ((intsOf ds).getD []) a.1 ≠ 0) | _ => false) (fun d => d) (LF F) [] (by simp; omega) (fun d hd => by
      obtain ⟨b, hb, rfl⟩ := List.mem_map.mp hd
      have g4 := at_fn (xs := b.2) (p := a.1) (by rw [h.len b hb]; omega)
      refine ⟨_, rfl, ?_, fun _ => ?_, rfl⟩
      · unfold t1_l_is_settled
        simp only [T] at g4 ⊢
        simp [g2, g4, neD_ok, eqv_int, intsOf_map]
        by_cases h0 : fn b.2 a.1 = 0 <;> simp [h0]
      · unfold e2_l_is_settled
        simp)
    have ef : ((LF F).filter fun d => match d with | .tuple ds => decide (fn ((intsOf ds).getD []) a.1 ≠ 0) | _ => false) = [T a.2] := by
      rw [List.filter_map]
      have : ((fun d : D => match d with | .tuple ds => decide (fn ((intsOf ds).getD []) a.1 ≠ 0) | _ => false) ∘ fun b : Nat × List Int => T b.2) = fun b => decide (fn b.2 a.1 ≠ 0) := by
        funext b
        show decide (fn ((intsOf (b.2.map PyData.int)).getD []) a.1 ≠ 0) = _
        rw [intsOf_map]; rfl
      rw [this, h.count ha]
      rfl
    rw [ef] at cf
    refine ⟨_, [.ol (LF F), .sh (.int n), s2, .ol (F.map fun a => PyData.int (a.1 : Int)), .sh (.int i), .no], rfl, .inl ?_, _, rfl⟩
    unfold b3_l_is_settled
    simp only [T] at g1 g3 dv cf
    have p1 : ¬ fn a.2 a.1 < 1 := by omega
    match i, hi, gi, g1, g2, cf with
    | 0, _, _, g1, g2, cf =>
      simp at g1 g2 cf
      simp [g1, g2, g3, dv, ltD, gtD, geD, p1, neD_ok, eqv_int]
      rw [cf]
      simp [neD_ok, eqv_int]
    | j + 1, hi, gi, g1, g2, cf =>
      have hj : j < F.length := by omega
      have g5 : atI (F.map fun a => PyData.int (a.1 : Int)) (j : Int) = some (.int (F[j].1 : Int)) := at_nat (by rw [List.getElem?_map, List.getElem?_eq_getElem hj]; rfl)
      have lt2 : F[j].1 < a.1 := by
        have e2 : F[j + 1] = a := by
          rw [List.getElem?_eq_getElem hi] at gi
          exact Option.some.inj gi
        rw [← e2]
        exact List.pairwise_iff_getElem.mp h.ord j (j + 1) hj hi (by omega)
      have p2 : ¬ ((a.1 : Int) ≤ (F[j].1 : Int)) := by omega
      have e1 : ((j + 1 : Nat) : Int) - 1 = (j : Int) := by omega
      have p0 : (0 : Int) < ((j + 1 : Nat) : Int) := by omega
      simp only [List.map_map] at *
      generalize ((j + 1 : Nat) : Int) = J at *
      simp [g1, g2, g3, g5, dv, ltD, gtD, geD, p1, p0, e1, p2, neD_ok, eqv_int]
      simp at cf
      rw [cf]
      simp [neD_ok, eqv_int])
  unfold f_l_is_settled
  rw [run_eq]
  have h1 : (F.length : Int) < 4611686018427387904 := by omega
  have h2 : -4611686018427387904 ≤ (F.length : Int) := by omega
  simp
  rw [q1]
  simp
  rw [cm]
  simp [h1, h2]
  rw [q3]
  simp [backArgs_eq, List.range_succ]
/-! ### settled, of lines that are small enough -/
theorem settled_made {n A a k R : Nat} (z : Sizes n A k R) (z2 : Sizes2 n A a R) (lines : List (List Int)) (hl : ∀ l ∈ lines, l.length = n ∧ (∀ j, (fn l j).natAbs ≤ A) ∧ ∀ x ∈ l, Bd 13500 x) (hR : n ≤ R ∨ lines.length ≤ R) (hz : lines.length ≤ 1000000) :
    ∃ F, f_settled [.ol (lines.map T)] = .ok (.ol (LF F), [.ol (lines.map T)]) ∧ Made n (R * (a + 6)) lines F := by
  obtain ⟨t, ps, F, p1, p2, p3, p4, p5⟩ := settled_exists z z2 lines hl hR
  refine ⟨F, ?_, p5⟩
  have es : sortI (t.map fun e => (e.1 : Int)) = ps.map fun (p : Nat) => (p : Int) := by
    refine srt_uniq (sortI_srt _) ?_ ((sortI_perm _).trans ?_)
    · rw [List.pairwise_map]
      exact p2.imp fun h => by omega
    · have := (p3.map fun (p : Nat) => (p : Int)).symm
      rwa [List.map_map] at this
  have hn := z.hn
  have hk := z.hk2
  have hlen : ps.length ≤ 1000000 := by
    have q1 := p3.length_eq
    rw [List.length_map] at q1
    have q2 : F.length ≤ lines.length := p5.le
    have q3 : ∀ {ps : List Nat} {f g : List (List Int)}, FinRun n 13500 t ps f g → g.length = f.length + ps.length := by
      intro ps f g h
      induction h with
      | nil => simp
      | cons _ _ _ ih => rw [ih]; simp; omega
    have := q3 p4
    simp at this
    omega
  have so := settled_ok (n := n) (k := k) (k2 := 13500) (by omega) (by omega) (by omega) lines hz p1 es p4 hlen
  rw [List.map_map] at so
  exact so
theorem sizes7 {n : Nat} (h : n ≤ 7) : Sizes n (2 ^ 270) 1932 7 ∧ Sizes2 n (2 ^ 270) 270 7 :=
  ⟨⟨by omega, sb_bits (a := 270) (by omega) (by omega) (Nat.le_refl _), by omega⟩, ⟨by omega, Nat.le_refl _, by omega, fun m k h1 h2 => by omega⟩⟩
theorem Lines.fit {n : Nat} {lines : List (List Int)} (h : Lines n lines) : ∀ l ∈ lines, l.length = n ∧ (∀ j, (fn l j).natAbs ≤ 2 ^ 270) ∧ ∀ x ∈ l, Bd 13500 x := fun l hl => ⟨h.len l hl, fun j => Nat.le_of_lt (fn_bd (h.bd l hl) j), fun x hx => (h.bd l hl x hx).mono (by omega)⟩
theorem Lines.settled {n : Nat} {lines : List (List Int)} (h : Lines n lines) : ∃ F, f_settled [.ol (lines.map T)] = .ok (.ol (LF F), [.ol (lines.map T)]) ∧ Made n 1932 lines F := by
  obtain ⟨z1, z2⟩ := sizes7 h.n7
  obtain ⟨F, q, m⟩ := settled_made z1 z2 lines h.fit (.inl h.n7) (by have := h.le; omega)
  exact ⟨F, q, m⟩
theorem Lines.reverse {n : Nat} {lines : List (List Int)} (h : Lines n lines) : Lines n lines.reverse :=
  ⟨h.n1, h.n7, by rw [List.length_reverse]; exact h.le, fun l hl => h.len l (List.mem_reverse.mp hl), fun l hl => h.bd l (List.mem_reverse.mp hl)⟩
theorem lay_T (xs : List Int) : Lay 1 (T xs) := .tuple (layInts xs)
theorem lay_lines {α : Type} (xs : List α) (f : α → List Int) : Lay 2 (.list (xs.map fun a => T (f a))) := .list fun d hd => by
  obtain ⟨a, _, rfl⟩ := List.mem_map.mp hd
  exact lay_T (f a)
/-! ### the law's own view of what is made -/
theorem headP_take (F : List (Nat × List Int)) (i : Nat) (h : i < F.length) : headP (F.take (i + 1)) = headP (F.take i) * fn F[i].2 F[i].1 := by
  unfold headP
  rw [← List.take_append_getElem h, List.map_append, List.foldl_append]
  rfl
theorem headP_bd {F : List (Nat × List Int)} {e : Nat} (h : ∀ a ∈ F, ∀ x ∈ a.2, Bd e x) (he : 1 ≤ e) : ∀ i, i ≤ F.length → Bd (e * i + 1) (headP (F.take i))
  | 0, _ => Bd.lit (by show 1 < 2 ^ (0 + 1); decide)
  | i + 1, hi => by
    rw [headP_take F i (by omega)]
    have := (headP_bd h he i (by omega)).mul (fn_bd (h F[i] (List.getElem_mem (by omega))) F[i].1)
    refine this.mono ?_
    rw [Nat.mul_succ]; omega
theorem mix_take (P : Int) (F : List (Nat × List Int)) (y : Vec) (j i : Nat) (h : i < F.length) : mix P (F.take (i + 1)) y j = mix P (F.take i) y j + y F[i].1 * (P / fn F[i].2 F[i].1) * fn F[i].2 j := by
  unfold mix
  rw [← List.take_append_getElem h, List.map_append, List.sum_append]
  simp
theorem ediv_bd {k : Nat} {x y : Int} (h : Bd k x) (h0 : 0 < y) : Bd k (x / y) := by
  have : (x / y).natAbs ≤ x.natAbs := Int.natAbs_ediv_le_natAbs x y
  unfold Bd at *
  omega
theorem mix_bd {F : List (Nat × List Int)} {e k : Nat} {P : Int} {y : Vec} (h : ∀ a ∈ F, ∀ x ∈ a.2, Bd e x) (hp : ∀ a ∈ F, 0 < fn a.2 a.1) (hy : ∀ j, Bd k (y j)) {m : Nat} (hP : Bd m P) (j : Nat) : ∀ i, i ≤ F.length → Bd (k + m + e + 1 + i) (mix P (F.take i) y j)
  | 0, _ => Bd.zero
  | i + 1, hi => by
    rw [mix_take P F y j i (by omega)]
    have mem := List.getElem_mem (show i < F.length by omega)
    have b := ((hy F[i].1).mul (ediv_bd hP (hp _ mem))).mul (fn_bd (h _ mem) j)
    exact (mix_bd h hp hy hP j i (by omega)).add b (by omega) (by omega)
theorem makes_turn {n : Nat} {F : List (Nat × List Int)} (h : St n F) (hn : n ≤ 7) {e : Nat} (hb : ∀ a ∈ F, ∀ x ∈ a.2, Bd e x) (he : 1 ≤ e ∧ e ≤ 8000) (ys : List Int) (hl : ys.length = n) {k : Nat} (hy : ∀ y ∈ ys, Bd k y) (hk : k ≤ 100000) (j : Nat) (hj : j < n) (s3 s6 s7 : Sl) :
    ∃ s3' s6' s7', loopF (.nm 3) b1_l_makes (LF F) [.no, .sh (T ys), .sh (.int (headP F)), s3, .sh (.int j), .sh (.int 0), s6, s7] = .ok (.nx [.no, .sh (T ys), .sh (.int (headP F)), s3', .sh (.int j), .sh (.int (mix (headP F) F (fn ys) j)), s6', s7']) := by
  have hF := h.le
  have hP := headP_bd hb he.1 F.length (Nat.le_refl _)
  rw [List.take_length] at hP
  have hm : e * F.length ≤ 8000 * 7 := Nat.mul_le_mul he.2 (by omega)
  obtain ⟨e', q, s3', s6', s7', rfl⟩ := loop_inv (tg := .nm 3) (b := b1_l_makes) (fun i e => ∃ s3 s6 s7, e = [.no, .sh (T ys), .sh (.int (headP F)), s3, .sh (.int j), .sh (.int (mix (headP F) (F.take i) (fn ys) j)), s6, s7]) (LF F)
    (env := [.no, .sh (T ys), .sh (.int (headP F)), s3, .sh (.int j), .sh (.int 0), s6, s7]) ⟨s3, s6, s7, rfl⟩ (by
      rintro i d _ hd ⟨s3, s6, s7, rfl⟩
      have hi : i < F.length := by
        have := (List.getElem?_eq_some_iff.mp hd).1
        rwa [List.length_map] at this
      rw [List.getElem?_map, List.getElem?_eq_getElem hi] at hd
      cases hd
      rw [mix_take _ F (fn ys) j i hi]
      obtain ⟨a, ea⟩ : ∃ a, a = F[i] := ⟨_, rfl⟩
      have ha : a ∈ F := by rw [ea]; exact List.getElem_mem hi
      rw [← ea]
      have lt := h.lt ha
      have al := h.len a ha
      have hh := l_head_ok a.2 (by omega)
      rw [h.head a ha] at hh
      have pos := h.pos a ha
      have g1 := at_fn (xs := a.2) (p := a.1) (by omega)
      have g2 := at_fn (xs := a.2) (p := j) (by omega)
      have g3 := at_fn (xs := ys) (p := a.1) (by omega)
      have dv : divOk (headP F) (fn a.2 a.1) = true := Bd.dOk (by omega) (fn_bd (hb a ha) a.1) (by omega)
      have ef : (headP F).fdiv (fn a.2 a.1) = headP F / fn a.2 a.1 := fdiv_pos pos
      have b1 := fn_bd hy a.1
      have b2 : Bd (e * F.length + 1) (headP F / fn a.2 a.1) := ediv_bd hP pos
      have m1 : mulOk (fn ys a.1) (headP F / fn a.2 a.1) = true := b1.mOk b2 (by omega)
      have m2 : mulOk (fn ys a.1 * (headP F / fn a.2 a.1)) (fn a.2 j) = true := (b1.mul b2).mOk (fn_bd (hb a ha) j) (by omega)
      refine ⟨_, _, rfl, .inl ?_, .sh (T a.2), .sh (.int a.1), .sh (.int (headP F / fn a.2 a.1)), rfl⟩
      unfold b1_l_makes
      simp only [T, optI] at hh g1 g2 g3 ⊢
      simp [hh, g1, divD_int dv, ef, g3, mulD_int m1, g2, mulD_int m2])
  rw [List.length_map, List.take_length] at q
  exact ⟨s3', s6', s7', q⟩
theorem makes_heads {n : Nat} {F : List (Nat × List Int)} (h : St n F) (hn : n ≤ 7) {e : Nat} (hb : ∀ a ∈ F, ∀ x ∈ a.2, Bd e x) (he : 1 ≤ e ∧ e ≤ 8000) (a1 : Sl) :
    ∃ s3, loopF (.nm 3) b3_l_makes (LF F) [.no, a1, .sh (.int 1), .no, .no, .no, .no, .no] = .ok (.nx [.no, a1, .sh (.int (headP F)), s3, .no, .no, .no, .no]) := by
  have hF := h.le
  have hm : e * F.length ≤ 8000 * 7 := Nat.mul_le_mul he.2 (by omega)
  obtain ⟨e', q, s3', rfl⟩ := loop_inv (tg := .nm 3) (b := b3_l_makes) (fun i e => ∃ s3, e = [.no, a1, .sh (.int (headP (F.take i))), s3, .no, .no, .no, .no]) (LF F)
    (env := [.no, a1, .sh (.int 1), .no, .no, .no, .no, .no]) ⟨.no, rfl⟩ (by
      rintro i d _ hd ⟨s3, rfl⟩
      have hi : i < F.length := by
        have := (List.getElem?_eq_some_iff.mp hd).1
        rwa [List.length_map] at this
      rw [List.getElem?_map, List.getElem?_eq_getElem hi] at hd
      cases hd
      rw [headP_take F i hi]
      have hP := headP_bd hb he.1 i (by omega)
      have hm2 : e * i ≤ e * F.length := Nat.mul_le_mul_left e (by omega)
      obtain ⟨a, ea⟩ : ∃ a, a = F[i] := ⟨_, rfl⟩
      have ha : a ∈ F := by rw [ea]; exact List.getElem_mem hi
      rw [← ea]
      have lt := h.lt ha
      have al := h.len a ha
      have hh := l_head_ok a.2 (by omega)
      rw [h.head a ha] at hh
      have g1 := at_fn (xs := a.2) (p := a.1) (by omega)
      have m1 : mulOk (headP (F.take i)) (fn a.2 a.1) = true := hP.mOk (fn_bd (hb a ha) a.1) (by omega)
      refine ⟨_, _, rfl, .inl ?_, .sh (T a.2), rfl⟩
      unfold b3_l_makes
      simp only [T, optI] at hh g1 ⊢
      simp [hh, g1, mulD_int m1])
  rw [List.length_map, List.take_length] at q
  exact ⟨s3', q⟩
/-- the law tells whether a line is made, crosswise -/
theorem makes_ok {n : Nat} {F : List (Nat × List Int)} (h : St n F) (hn : n ≤ 7) {e : Nat} (hb : ∀ a ∈ F, ∀ x ∈ a.2, Bd e x) (he : 1 ≤ e ∧ e ≤ 8000) (ys : List Int) (hl : ys.length = n) {k : Nat} (hy : ∀ y ∈ ys, Bd k y) (hk : k ≤ 100000) :
    ∃ b : Bool, (b = true ↔ ∀ j, j < n → mix (headP F) F (fn ys) j = headP F * fn ys j) ∧ f_l_makes [.ol (LF F), .sh (T ys)] = .ok (.sh (.bool b), [.ol (LF F), .sh (T ys)]) := by
  have hF := h.le
  have hm : e * F.length ≤ 8000 * 7 := Nat.mul_le_mul he.2 (by omega)
  have hP := headP_bd hb he.1 F.length (Nat.le_refl _)
  rw [List.take_length] at hP
  obtain ⟨s3, q1⟩ := makes_heads h hn hb he (.sh (T ys))
  obtain ⟨e', w⟩ := loop_chk (tg := .nm 4) (b := b2_l_makes) (fun i e => ∃ s3 s4 s5 s6 s7, e = [.ol (LF F), .sh (T ys), .sh (.int (headP F)), s3, s4, s5, s6, s7]) (fun e => ∃ s3 s4 s5 s6 s7, e = [.ol (LF F), .sh (T ys), .sh (.int (headP F)), s3, s4, s5, s6, s7]) (.sh (.bool false)) (fun j => mix (headP F) F (fn ys) j = headP F * fn ys j) (rngD 0 n)
    (env := [.ol (LF F), .sh (T ys), .sh (.int (headP F)), s3, .no, .no, .no, .no]) ⟨_, _, _, _, _, rfl⟩ (by
      rintro j d _ hd ⟨s3, s4, s5, s6, s7, rfl⟩
      obtain ⟨hj, rfl⟩ := rng_get hd
      obtain ⟨t3, t6, t7, q⟩ := makes_turn h hn hb he ys hl hy hk j hj s3 s6 s7
      have g1 := at_fn (xs := ys) (p := j) (by omega)
      have m1 : mulOk (headP F) (fn ys j) = true := hP.mOk (fn_bd hy j) (by omega)
      refine ⟨_, [.ol (LF F), .sh (T ys), .sh (.int (headP F)), t3, .sh (.int j), .sh (.int (mix (headP F) F (fn ys) j)), t6, t7], rfl, ?_⟩
      by_cases c : mix (headP F) F (fn ys) j = headP F * fn ys j
      · refine .inl ⟨c, ?_, _, _, _, _, _, rfl⟩
        unfold b2_l_makes
        simp
        rw [q]
        simp only [T] at g1 ⊢
        simp [g1, mulD_int m1, neD_ok, eqv_int, c]
      · refine .inr ⟨c, ?_, _, _, _, _, _, rfl⟩
        have c' : (mix (headP F) F (fn ys) j == headP F * fn ys j) = false := by simpa using c
        unfold b2_l_makes
        simp
        rw [q]
        simp only [T] at g1 ⊢
        simp [g1, mulD_int m1, neD_ok, eqv_int, c'])
  rw [rng_len] at w
  have h1 : (n : Int) < 4611686018427387904 := by omega
  have h2 : -4611686018427387904 ≤ (n : Int) := by omega
  rcases w with ⟨w1, w2, s3', s4', s5', s6', s7', rfl⟩ | ⟨w1, w2, s3', s4', s5', s6', s7', rfl⟩
  · refine ⟨true, ⟨fun _ => w1, fun _ => rfl⟩, ?_⟩
    unfold f_l_makes
    rw [run_eq]
    simp
    rw [q1]
    simp [hl, h1, h2]
    rw [w2]
    simp [backArgs_eq, List.range_succ]
  · refine ⟨false, ⟨nofun, fun q => absurd q w1⟩, ?_⟩
    unfold f_l_makes
    rw [run_eq]
    simp
    rw [q1]
    simp [hl, h1, h2]
    rw [w2]
    simp [backArgs_eq, List.range_succ]
/-- made, by the law's eye, is made -/
theorem made_iff {n : Nat} {F : List (Nat × List Int)} (h : St n F) (ys : List Int) (hl : ys.length = n) : (∀ j, j < n → mix (headP F) F (fn ys) j = headP F * fn ys j) ↔ SpF F (fn ys) := by
  constructor
  · intro w
    refine formula_sp (P := headP F) (by have := headP_pos h; omega) fun j => ?_
    by_cases hj : j < n
    · exact w j hj
    · rw [fn_out (xs := ys) (by omega), Int.mul_zero]
      refine mix_off _ F _ j fun a ha => ?_
      rw [fn_out (xs := a.2) (by rw [h.len a ha]; omega)]
      simp
  · intro w j _
    exact h.formula (fun a ha => headP_dvd ha) w j
/-! ### nought_by, noughts: the walk -/
/-- parts and numbers at a place -/
abbrev prs (F : List (Nat × List Int)) (y : Nat × List Int → Int) : List (Int × Int) := F.map fun a => (fn a.2 a.1, y a)
theorem prs_take (F : List (Nat × List Int)) (y : Nat × List Int → Int) (i : Nat) (h : i < F.length) : prs (F.take (i + 1)) y = prs (F.take i) y ++ [(fn F[i].2 F[i].1, y F[i])] := by
  rw [prs, ← List.take_append_getElem h, List.map_append]; rfl
theorem prs_ok {n e : Nat} {F : List (Nat × List Int)} (h : St n F) (hb : ∀ a ∈ F, ∀ x ∈ a.2, Bd e x) (y : Nat × List Int → Int) (i : Nat) : ∀ p ∈ prs (F.take i) y, 0 < p.1 ∧ Bd e p.1 := fun p hp => by
  obtain ⟨a, ha, rfl⟩ := List.mem_map.mp hp
  have ha := List.mem_of_mem_take ha
  exact ⟨h.pos a ha, fn_bd (hb a ha) a.1⟩
/-- one turn of the least times: the numbers may be divided -/
theorem tm_turn {t part x : Int} {e : Nat} (ht : 0 < t) (hp : 0 < part) (he : e ≤ 8000) (bp : Bd e part) {k : Nat} (bt : Bd k t) (hk : k ≤ 400000) : divOk part (Int.gcd part x : Int) = true ∧ part.fdiv (Int.gcd part x : Int) = need part x ∧ mulOk t (need part x) = true ∧ divOk (t * need part x) (Int.gcd t (need part x) : Int) = true ∧ (t * need part x).fdiv (Int.gcd t (need part x) : Int) = tmS t part x := by
  have g := gcd_pos (b := x) hp
  have hn := need_pos (x := x) hp
  have nle : need part x ≤ part := by
    unfold need
    exact Int.ediv_le_self _ (by omega)
  have bn : Bd e (need part x) := by unfold Bd at bp ⊢; omega
  have g2 := gcd_pos (b := need part x) ht
  have gle : (Int.gcd t (need part x) : Int) ≤ need part x := Int.le_of_dvd hn (Int.gcd_dvd_right ..)
  have bg : Bd e (Int.gcd t (need part x) : Int) := by unfold Bd at bn ⊢; omega
  exact ⟨dOk_of (by omega) (bp.mono (by omega)), fdiv_pos g, bt.mOk bn (by omega), Bd.dOk (by omega) bg (by omega), fdiv_pos g2⟩
/-! ### made_of: the walk -/
theorem comp_of {α : Type} {tg : Tgt} {ft : EvT} {fe : EvF} {own : List Nat} {E : Lo} (f g : α → D) : ∀ (xs : List α) (acc : List D), xs.length + acc.length ≤ 16777216 →
    (∀ x ∈ xs, ∃ e1 r e3, bindT tg (f x) E = some e1 ∧ ft e1 = .ok (true, e1) ∧ fe e1 = .ok (r, e3) ∧ (∃ e4, freezeR e3 r = some (g x, e4) ∧ wipeE e4 own = E)) → compF tg ft fe own (xs.map f) acc E = .ok (acc ++ xs.map g, E)
  | [], acc, _, _ => by simp [compF]
  | x :: xs, acc, hl, h => by
    obtain ⟨e1, r, e3, q1, q2, q3, e4, q4, q5⟩ := h x List.mem_cons_self
    have hl' : xs.length + (acc ++ [g x]).length ≤ 16777216 := by simp at hl ⊢; omega
    have ih := comp_of f g xs (acc ++ [g x]) hl' fun x hx => h x (List.mem_cons_of_mem _ hx)
    show (Res.ofO (bindT tg (f x) E)).bind _ = _
    rw [q1]
    show (ft e1).bind _ = _
    rw [q2]
    show (fe e1).bind _ = _
    rw [q3]
    show (Res.ofO (freezeR e3 r)).bind _ = _
    rw [q4]
    show (if acc.length < 16777216 then compF tg ft fe own (xs.map f) (acc ++ [g x]) (wipeE e4 own) else .bad) = _
    rw [if_pos (by simp at hl; omega), q5, ih]
    simp
/-- a multiple -/
def moM (ys : List Int) (t : Int) (a : Nat × List Int) : Int := t * fn ys a.1 / fn a.2 a.1
theorem mo_times {n e : Nat} {F : List (Nat × List Int)} (h : St n F) (hn : n ≤ 7) (hb : ∀ a ∈ F, ∀ x ∈ a.2, Bd e x) (he : 1 ≤ e ∧ e ≤ 8000) (ys : List Int) (hl : ys.length = n) :
    ∃ s3 s4 s5, loopF (.nm 3) b4_made_of (LF F) [.no, .sh (T ys), .sh (.int 1), .no, .no, .no, .no, .no, .no] = .ok (.nx [.no, .sh (T ys), .sh (.int (tmF (prs F fun a => fn ys a.1))), s3, s4, s5, .no, .no, .no]) := by
  have hF := h.le
  have hm : e * F.length ≤ 8000 * 7 := Nat.mul_le_mul he.2 (by omega)
  obtain ⟨e', q, s4', s5', s6', rfl⟩ := loop_inv (tg := .nm 3) (b := b4_made_of) (fun i e => ∃ s3 s4 s5, e = [.no, .sh (T ys), .sh (.int (tmF (prs (F.take i) fun a => fn ys a.1))), s3, s4, s5, .no, .no, .no]) (LF F)
    (env := [.no, .sh (T ys), .sh (.int 1), .no, .no, .no, .no, .no, .no]) ⟨.no, .no, .no, rfl⟩ (by
      rintro i d _ hd ⟨s4, s5, s6, rfl⟩
      have hi : i < F.length := by
        have := (List.getElem?_eq_some_iff.mp hd).1
        rwa [List.length_map] at this
      rw [List.getElem?_map, List.getElem?_eq_getElem hi] at hd
      cases hd
      rw [prs_take F _ i hi, tmF_app]
      have hm2 : e * i ≤ e * F.length := Nat.mul_le_mul_left e (by omega)
      have bt := tmF_bd he.1 i (prs (F.take i) fun a => fn ys a.1) (by simp; omega) (prs_ok h hb _ i)
      have pt := (tmF_all _ (prs (F.take i) fun a => fn ys a.1) rfl fun p hp => (prs_ok h hb _ i p hp).1).1
      generalize tmF (prs (F.take i) fun a => fn ys a.1) = t at *
      obtain ⟨a, ea⟩ : ∃ a, a = F[i] := ⟨_, rfl⟩
      have ha : a ∈ F := by rw [ea]; exact List.getElem_mem hi
      rw [← ea]
      have lt := h.lt ha
      have al := h.len a ha
      have hh := head_ok a.2 (by omega)
      rw [h.head a ha] at hh
      have g1 := at_fn (xs := a.2) (p := a.1) (by omega)
      have g2 := at_fn (xs := ys) (p := a.1) (by omega)
      obtain ⟨c1, c2, c3, c4, c5⟩ := tm_turn (x := fn ys a.1) pt (h.pos a ha) he.2 (fn_bd (hb a ha) a.1) bt (by omega)
      refine ⟨_, _, rfl, .inl ?_, .sh (T a.2), .sh (.int (fn a.2 a.1)), .sh (.int (need (fn a.2 a.1) (fn ys a.1))), rfl⟩
      unfold b4_made_of
      simp only [T, optI] at hh g1 g2 ⊢
      simp [hh, g1, g2, gcd_ok, divD_int c1, c2, mulD_int c3, divD_int c4, c5])
  rw [List.length_map, List.take_length] at q
  exact ⟨s4', s5', s6', q⟩
theorem moM_bd {n e : Nat} {F : List (Nat × List Int)} (h : St n F) {ys : List Int} {k m : Nat} (hy : ∀ y ∈ ys, Bd k y) {t : Int} (ht : Bd m t) {a : Nat × List Int} (ha : a ∈ F) : Bd (m + k) (moM ys t a) := by
  unfold moM
  exact ediv_bd (ht.mul (fn_bd hy a.1)) (h.pos a ha)
theorem mo_comp {n e : Nat} {F : List (Nat × List Int)} (h : St n F) (hn : n ≤ 7) (hb : ∀ a ∈ F, ∀ x ∈ a.2, Bd e x) (he : 1 ≤ e ∧ e ≤ 8000) (ys : List Int) (hl : ys.length = n) {k : Nat} (hy : ∀ y ∈ ys, Bd k y) (hk : k ≤ 100000) (t : Int) (ht : Bd 60000 t) (s4 s5 : Sl) :
    compF (.nm 3) fYes e3_made_of [3] (LF F) [] [.no, .sh (T ys), .sh (.int t), .no, s4, s5, .no, .no, .no] = .ok ((F.map (moM ys t)).map PyData.int, [.no, .sh (T ys), .sh (.int t), .no, s4, s5, .no, .no, .no]) := by
  have hF := h.le
  have := comp_of (tg := .nm 3) (ft := fYes) (fe := e3_made_of) (own := [3]) (E := [.no, .sh (T ys), .sh (.int t), .no, s4, s5, .no, .no, .no]) (fun a : Nat × List Int => T a.2) (fun a => .int (moM ys t a)) F [] (by simp; omega) (fun a ha => by
    have lt := h.lt ha
    have al := h.len a ha
    have pos := h.pos a ha
    have hh := head_ok a.2 (by omega)
    rw [h.head a ha] at hh
    have g1 := at_fn (xs := a.2) (p := a.1) (by omega)
    have g2 := at_fn (xs := ys) (p := a.1) (by omega)
    have m1 : mulOk t (fn ys a.1) = true := ht.mOk (fn_bd hy a.1) (by omega)
    have dv : divOk (t * fn ys a.1) (fn a.2 a.1) = true := Bd.dOk (by omega) (fn_bd (hb a ha) a.1) (by omega)
    have ef : (t * fn ys a.1).fdiv (fn a.2 a.1) = moM ys t a := fdiv_pos pos
    refine ⟨_, .sh (.int (moM ys t a)), [.no, .sh (T ys), .sh (.int t), .sh (T a.2), s4, s5, .no, .no, .no], rfl, rfl, ?_, _, rfl, rfl⟩
    generalize moM ys t a = M at *
    unfold e3_made_of
    simp only [T, optI] at hh g1 g2 ⊢
    simp [hh, g1, g2, mulD_int m1, divD_int dv, ef])
  rw [List.nil_append] at this
  rw [List.map_map]
  exact this
/-- what a place comes to -/
def moS (F : List (Nat × List Int)) (ys : List Int) (t : Int) (j : Nat) : Int := (F.map fun a => moM ys t a * fn a.2 j).sum
theorem mo_sum {n e : Nat} {F : List (Nat × List Int)} (h : St n F) (hn : n ≤ 7) (hb : ∀ a ∈ F, ∀ x ∈ a.2, Bd e x) (he : 1 ≤ e ∧ e ≤ 8000) (ys : List Int) {k : Nat} (hy : ∀ y ∈ ys, Bd k y) (hk : k ≤ 100000) (t : Int) (ht : Bd 60000 t) (j : Nat) (hj : j < n) (s4 s5 : Sl) :
    compF (.tp [8, 3]) fYes e1_made_of [8, 3] (zipD ((F.map (moM ys t)).map PyData.int) (LF F)) [] [.no, .sh (T ys), .sh (.int t), .no, s4, s5, .no, .sh (.int j), .no] = .ok ((F.map fun a => moM ys t a * fn a.2 j).map PyData.int, [.no, .sh (T ys), .sh (.int t), .no, s4, s5, .no, .sh (.int j), .no]) := by
  have hF := h.le
  have ez : zipD ((F.map (moM ys t)).map PyData.int) (LF F) = F.map fun a => PyData.tuple [.int (moM ys t a), T a.2] := by
    unfold zipD LF
    rw [List.map_map, List.zipWith_map, List.zipWith_self]
    rfl
  have := comp_of (tg := .tp [8, 3]) (ft := fYes) (fe := e1_made_of) (own := [8, 3]) (E := [.no, .sh (T ys), .sh (.int t), .no, s4, s5, .no, .sh (.int j), .no]) (fun a : Nat × List Int => PyData.tuple [.int (moM ys t a), T a.2]) (fun a => .int (moM ys t a * fn a.2 j)) F [] (by simp; omega) (fun a ha => by
    have al := h.len a ha
    have g2 := at_fn (xs := a.2) (p := j) (by omega)
    have m1 : mulOk (moM ys t a) (fn a.2 j) = true := (moM_bd (e := e) h hy ht ha).mOk (fn_bd (hb a ha) j) (by omega)
    refine ⟨_, .sh (.int (moM ys t a * fn a.2 j)), [.no, .sh (T ys), .sh (.int t), .sh (T a.2), s4, s5, .no, .sh (.int j), .sh (.int (moM ys t a))], rfl, rfl, ?_, _, rfl, rfl⟩
    generalize moM ys t a = M at *
    unfold e1_made_of
    simp only [T] at g2 ⊢
    simp [g2, mulD_int m1])
  rw [List.nil_append] at this
  rw [ez, this, List.map_map]
  rfl
theorem made_of_ok {n e : Nat} {F : List (Nat × List Int)} (h : St n F) (hn : n ≤ 7) (hb : ∀ a ∈ F, ∀ x ∈ a.2, Bd e x) (he : 1 ≤ e ∧ e ≤ 8000) (ys : List Int) (hl : ys.length = n) {k : Nat} (hy : ∀ y ∈ ys, Bd k y) (hk : k ≤ 100000) (t : Int) (et : t = tmF (prs F fun a => fn ys a.1)) :
    ((∀ j, j < n → moS F ys t j = t * fn ys j) ∧ f_made_of [.ol (LF F), .sh (T ys)] = .ok (.tt (.int t) (I (F.map (moM ys t))), [.ol (LF F), .sh (T ys)])) ∨
    ((¬ ∀ j, j < n → moS F ys t j = t * fn ys j) ∧ f_made_of [.ol (LF F), .sh (T ys)] = .ok (.sh .none, [.ol (LF F), .sh (T ys)])) := by
  have hF := h.le
  have hm : e * F.length ≤ 8000 * 7 := Nat.mul_le_mul he.2 (by omega)
  obtain ⟨s3, s4, s5, q1⟩ := mo_times h hn hb he ys hl
  have po : ∀ p ∈ prs F (fun a => fn ys a.1), 0 < p.1 ∧ Bd e p.1 := by
    have := prs_ok h hb (fun a => fn ys a.1) F.length
    rwa [List.take_length] at this
  have bt := tmF_bd he.1 F.length (prs F fun a => fn ys a.1) (by simp) po
  rw [← et] at q1 bt
  have bt : Bd 60000 t := bt.mono (by omega)
  have q2 := mo_comp h hn hb he ys hl hy hk t bt s4 s5
  obtain ⟨e', w⟩ := loop_chk (tg := .nm 7) (b := b2_made_of) (fun _ e => ∃ s7, e = [.ol (LF F), .sh (T ys), .sh (.int t), s3, s4, s5, .ol (I (F.map (moM ys t))), s7, .no]) (fun e => ∃ s7, e = [.ol (LF F), .sh (T ys), .sh (.int t), s3, s4, s5, .ol (I (F.map (moM ys t))), s7, .no]) (.sh .none) (fun j => moS F ys t j = t * fn ys j) (rngD 0 n)
    (env := [.ol (LF F), .sh (T ys), .sh (.int t), s3, s4, s5, .ol (I (F.map (moM ys t))), .no, .no]) ⟨_, rfl⟩ (by
      rintro j d _ hd ⟨s7, rfl⟩
      obtain ⟨hj, rfl⟩ := rng_get hd
      have q := mo_sum h hn hb he ys hy hk t bt j hj s4 s5
      have g1 := at_fn (xs := ys) (p := j) (by omega)
      have m1 : mulOk t (fn ys j) = true := bt.mOk (fn_bd hy j) (by omega)
      refine ⟨_, [.ol (LF F), .sh (T ys), .sh (.int t), s3, s4, s5, .ol (I (F.map (moM ys t))), .sh (.int j), .no], rfl, ?_⟩
      have es : (F.map fun a => moM ys t a * fn a.2 j).sum = moS F ys t j := rfl
      generalize (F.map fun a => moM ys t a * fn a.2 j) = V at *
      by_cases c : moS F ys t j = t * fn ys j
      · refine .inl ⟨c, ?_, _, rfl⟩
        generalize moS F ys t j = S at *
        unfold b2_made_of
        simp only [T, I] at g1 q ⊢
        generalize (F.map (moM ys t)).map PyData.int = MD at *
        generalize LF F = FD at *
        simp
        rw [q]
        simp [g1, es, mulD_int m1, neD_ok, eqv_int, c]
      · refine .inr ⟨c, ?_, _, rfl⟩
        have c' : (moS F ys t j == t * fn ys j) = false := by simpa using c
        generalize moS F ys t j = S at *
        unfold b2_made_of
        simp only [T, I] at g1 q ⊢
        generalize (F.map (moM ys t)).map PyData.int = MD at *
        generalize LF F = FD at *
        simp
        rw [q]
        simp [g1, es, mulD_int m1, neD_ok, eqv_int, c'])
  rw [rng_len] at w
  have h1 : (n : Int) < 4611686018427387904 := by omega
  have h2 : -4611686018427387904 ≤ (n : Int) := by omega
  have ly : ((ys.map PyData.int).length : Int) = (n : Int) := by simp [hl]
  rcases w with ⟨w1, w2, s7, rfl⟩ | ⟨w1, w2, s7, rfl⟩
  · refine .inl ⟨w1, ?_⟩
    unfold f_made_of
    rw [run_eq]
    simp only [T, I] at q1 q2 w2 ⊢
    generalize (F.map (moM ys t)).map PyData.int = MD at *
    generalize LF F = FD at *
    generalize ys.map PyData.int = YD at *
    simp
    rw [q1]
    simp
    rw [q2]
    simp [ly, h1, h2]
    rw [w2]
    simp [backArgs_eq, List.range_succ]
  · refine .inr ⟨w1, ?_⟩
    unfold f_made_of
    rw [run_eq]
    simp only [T, I] at q1 q2 w2 ⊢
    generalize (F.map (moM ys t)).map PyData.int = MD at *
    generalize LF F = FD at *
    generalize ys.map PyData.int = YD at *
    simp
    rw [q1]
    simp
    rw [q2]
    simp [ly, h1, h2]
    rw [w2]
    simp [backArgs_eq, List.range_succ]
/-! ### _law_right -/
theorem sum_mul2 {α : Type} (c d : Int) (f g : α → Int) : ∀ {l : List α}, (∀ a ∈ l, c * f a = d * g a) → c * (l.map f).sum = d * (l.map g).sum
  | [], _ => by simp
  | a :: l, h => by
    have ih := sum_mul2 c d f g (l := l) fun x hx => h x (List.mem_cons_of_mem _ hx)
    have := h a List.mem_cons_self
    rw [List.map_cons, List.map_cons, List.sum_cons, List.sum_cons, Int.mul_add, Int.mul_add, ih, this]
theorem mo_iff {n : Nat} {F : List (Nat × List Int)} (h : St n F) (ys : List Int) {t : Int} (tp : 0 < t) (hd : ∀ a ∈ F, fn a.2 a.1 ∣ t * fn ys a.1) (j : Nat) : moS F ys t j = t * fn ys j ↔ mix (headP F) F (fn ys) j = headP F * fn ys j := by
  have P := headP_pos h
  have e : headP F * moS F ys t j = t * mix (headP F) F (fn ys) j := by
    unfold moS mix
    refine sum_mul2 _ _ _ _ fun a ha => ?_
    have pos := h.pos a ha
    have e1 := Int.mul_ediv_cancel' (hd a ha)
    have e2 := Int.mul_ediv_cancel' (headP_dvd ha)
    show headP F * (moM ys t a * fn a.2 j) = t * (fn ys a.1 * (headP F / fn a.2 a.1) * fn a.2 j)
    have e3 : headP F * moM ys t a = t * fn ys a.1 * (headP F / fn a.2 a.1) := by
      show headP F * (t * fn ys a.1 / fn a.2 a.1) = _
      generalize t * fn ys a.1 / fn a.2 a.1 = m at *
      generalize headP F / fn a.2 a.1 = q at *
      rw [← e2, ← e1, Int.mul_assoc, Int.mul_comm q m, Int.mul_assoc]
    rw [← Int.mul_assoc, e3]
    simp only [Int.mul_assoc]
  constructor
  · intro q
    rw [q] at e
    refine Int.eq_of_mul_eq_mul_left (a := t) (by omega) ?_
    rw [← e, Int.mul_left_comm]
  · intro q
    rw [q] at e
    refine Int.eq_of_mul_eq_mul_left (a := headP F) (by omega) ?_
    rw [e, Int.mul_left_comm]
theorem l_divisor_ol (xs : List Int) : f_l_divisor [.ol (I xs)] = .ok (.sh (.int (cont xs)), [.ol (I xs)]) := by
  obtain ⟨s2, s3, s4, q⟩ := l_div_loop xs 0 .no .no .no .no
  unfold f_l_divisor
  rw [run_eq]
  simp only [I] at q ⊢
  simp
  simp at q
  rw [q]
  simp [backArgs_eq, List.range_succ]
  rfl
theorem right_ok {n e : Nat} {F : List (Nat × List Int)} (h : St n F) (hn : n ≤ 7) (hb : ∀ a ∈ F, ∀ x ∈ a.2, Bd e x) (he : 1 ≤ e ∧ e ≤ 8000) (ys : List Int) (hl : ys.length = n) {k : Nat} (hy : ∀ y ∈ ys, Bd k y) (hk : k ≤ 100000) :
    f_l_right [.ol (LF F), .sh (T ys)] = .ok (.sh (.bool true), [.ol (LF F), .sh (T ys)]) := by
  have hF := h.le
  have hm : e * F.length ≤ 8000 * 7 := Nat.mul_le_mul he.2 (by omega)
  obtain ⟨t, et⟩ : ∃ t, t = tmF (prs F fun a => fn ys a.1) := ⟨_, rfl⟩
  have po : ∀ p ∈ prs F (fun a => fn ys a.1), 0 < p.1 ∧ Bd e p.1 := by
    have := prs_ok h hb (fun a => fn ys a.1) F.length
    rwa [List.take_length] at this
  have bt := tmF_bd he.1 F.length (prs F fun a => fn ys a.1) (by simp) po
  obtain ⟨t1, t2, t3⟩ := tmF_all _ (prs F fun a => fn ys a.1) rfl fun p hp => (po p hp).1
  have tp := tmF_prim (ps := prs F fun a => fn ys a.1) fun p hp => (po p hp).1
  rw [← et] at bt t1 t2 tp
  have bt : Bd 60000 t := bt.mono (by omega)
  have hd : ∀ a ∈ F, fn a.2 a.1 ∣ t * fn ys a.1 := fun a ha => t2 _ (List.mem_map.mpr ⟨a, ha, rfl⟩)
  have iff : (∀ j, j < n → moS F ys t j = t * fn ys j) ↔ ∀ j, j < n → mix (headP F) F (fn ys) j = headP F * fn ys j := ⟨fun w j hj => (mo_iff h ys t1 hd j).mp (w j hj), fun w j hj => (mo_iff h ys t1 hd j).mpr (w j hj)⟩
  obtain ⟨b, hbb, mk⟩ := makes_ok h hn hb he ys hl hy hk
  have mo := made_of_ok h hn hb he ys hl hy hk t et
  have h1 : (n : Int) < 4611686018427387904 := by omega
  have h2 : -4611686018427387904 ≤ (n : Int) := by omega
  have ly : ((ys.map PyData.int).length : Int) = (n : Int) := by simp [hl]
  have lf : ((LF F).length : Int) = F.length := by simp
  have lm : (((F.map (moM ys t)).map PyData.int).length : Int) = F.length := by simp
  rcases mo with ⟨w, mo⟩ | ⟨w, mo⟩
  · have : b = true := hbb.mpr (iff.mp w)
    subst this
    have c1 : cont (t :: F.map (moM ys t)) = 1 := cont_one fun d hd' => by
      refine tp d (hd' 0) fun p hp => ?_
      obtain ⟨a, ha, rfl⟩ := List.mem_map.mp hp
      obtain ⟨i, hi, rfl⟩ := List.mem_iff_getElem.mp ha
      have := hd' (i + 1)
      have e : fn (t :: F.map (moM ys t)) (i + 1) = moM ys t F[i] := by
        unfold fn
        rw [List.getElem?_cons_succ, List.getElem?_map, List.getElem?_eq_getElem hi]; rfl
      rw [e] at this
      exact this
    have dv := l_divisor_ol (t :: F.map (moM ys t))
    rw [c1] at dv
    have ad : addD (.list [PyData.int t]) (.list ((F.map (moM ys t)).map PyData.int)) = some (.ol (PyData.int t :: (F.map (moM ys t)).map PyData.int)) := by
      rw [addD_list, if_pos (by simp; omega)]; rfl
    have cn := comp_none (tg := .nm 7) (ft := t3_l_right) (fe := e4_l_right) (own := [7]) (E := [.ol (LF F), .sh (T ys), .no, .sh (.int t), .ol ((F.map (moM ys t)).map PyData.int), .no, .no, .no, .no, .no]) (PyData.int t :: (F.map (moM ys t)).map PyData.int) [] (fun d hd => by
      have : ∃ x, d = .int x := by
        rcases List.mem_cons.mp hd with rfl | hd
        · exact ⟨_, rfl⟩
        · obtain ⟨x, _, rfl⟩ := List.mem_map.mp hd
          exact ⟨_, rfl⟩
      obtain ⟨x, rfl⟩ := this
      refine ⟨_, [.ol (LF F), .sh (T ys), .no, .sh (.int t), .ol ((F.map (moM ys t)).map PyData.int), .no, .no, .sh (.int x), .no, .no], rfl, ?_, rfl⟩
      unfold t3_l_right
      simp)
    obtain ⟨_, q, s5, rfl⟩ := loop_inv (tg := .nm 5) (b := b2_l_right) (fun _ e => ∃ s5, e = [.ol (LF F), .sh (T ys), .no, .sh (.int t), .ol ((F.map (moM ys t)).map PyData.int), s5, .no, .no, .no, .no]) (rngD 0 n)
      (env := [.ol (LF F), .sh (T ys), .no, .sh (.int t), .ol ((F.map (moM ys t)).map PyData.int), .no, .no, .no, .no, .no]) ⟨.no, rfl⟩ (by
        rintro j d _ hd ⟨s5, rfl⟩
        obtain ⟨hj, rfl⟩ := rng_get hd
        have g1 := at_fn (xs := ys) (p := j) (by omega)
        have m1 : mulOk t (fn ys j) = true := bt.mOk (fn_bd hy j) (by omega)
        have ez : zipD ((F.map (moM ys t)).map PyData.int) (LF F) = F.map fun a => PyData.tuple [.int (moM ys t a), T a.2] := by
          unfold zipD LF
          rw [List.map_map, List.zipWith_map, List.zipWith_self]
          rfl
        have cp := comp_of (tg := .tp [8, 9]) (ft := fYes) (fe := e1_l_right) (own := [8, 9]) (E := [.no, .sh (T ys), .no, .sh (.int t), .no, .sh (.int j), .no, .no, .no, .no]) (fun a : Nat × List Int => PyData.tuple [.int (moM ys t a), T a.2]) (fun a => .int (moM ys t a * fn a.2 j)) F [] (by simp; omega) (fun a ha => by
          have al := h.len a ha
          have g2 := at_fn (xs := a.2) (p := j) (by omega)
          have m1 : mulOk (moM ys t a) (fn a.2 j) = true := (moM_bd (e := e) h hy bt ha).mOk (fn_bd (hb a ha) j) (by omega)
          refine ⟨_, .sh (.int (moM ys t a * fn a.2 j)), [.no, .sh (T ys), .no, .sh (.int t), .no, .sh (.int j), .no, .no, .sh (.int (moM ys t a)), .sh (T a.2)], rfl, rfl, ?_, _, rfl, rfl⟩
          generalize moM ys t a = M at *
          unfold e1_l_right
          simp only [T] at g2 ⊢
          simp [g2, mulD_int m1])
        rw [List.nil_append, ← ez, show (F.map fun a => PyData.int (moM ys t a * fn a.2 j)) = (F.map fun a => moM ys t a * fn a.2 j).map PyData.int by rw [List.map_map]; rfl] at cp
        have es : (F.map fun a => moM ys t a * fn a.2 j).sum = t * fn ys j := w j hj
        generalize (F.map fun a => moM ys t a * fn a.2 j) = V at *
        refine ⟨_, [.ol (LF F), .sh (T ys), .no, .sh (.int t), .ol ((F.map (moM ys t)).map PyData.int), .sh (.int j), .no, .no, .no, .no], rfl, .inl ?_, _, rfl⟩
        unfold b2_l_right
        simp only [T, I] at g1 cp ⊢
        generalize (F.map (moM ys t)).map PyData.int = MD at *
        generalize LF F = FD at *
        simp
        rw [cp]
        simp [g1, es, mulD_int m1, neD_ok, eqv_int])
    have lay : Lay 2 (.tuple [.int t, .list ((F.map (moM ys t)).map PyData.int)]) := .tuple fun d hd => by
      rcases List.mem_cons.mp hd with rfl | hd
      · exact (Lay.int t).mono (by omega)
      · rw [List.mem_singleton] at hd
        subst hd
        exact .list (layInts _)
    have y1 := lay.shaped
    have z1 := lay.refl
    have lz : ((F.map (moM ys t)).map PyData.int).length < 16777216 := by simp; omega
    have tl : ¬ t < 1 := by omega
    unfold f_l_right
    rw [run_eq]
    simp only [T, I, List.map_cons] at mo mk dv cn q ⊢
    generalize (F.map (moM ys t)).map PyData.int = MD at *
    generalize LF F = FD at *
    generalize ys.map PyData.int = YD at *
    simp [mo, mk, neD_ok, eqv_int, ad]
    rw [cn]
    simp [gtD, lf, lm, neD_ok, eqv_int, ltD, tl, ad, dv, ly, h1, h2]
    rw [q]
    simp [lz, mo, eqD_ok, y1, z1, backArgs_eq, List.range_succ]
  · have : b = false := by
      cases b with
      | false => rfl
      | true => exact absurd (iff.mpr (hbb.mp rfl)) w
    subst this
    unfold f_l_right
    rw [run_eq]
    simp only [T, I] at mo mk ⊢
    generalize LF F = FD at *
    generalize ys.map PyData.int = YD at *
    simp [mo, mk, backArgs_eq, List.range_succ]
/-! ### _law_sum -/
theorem part_pick (x : Int) : ∃ p : Int, atI [PyData.int (x % 9 - 4), .int (x % 2000001 - 1000000)] (x / 9 % 2) = some (.int p) ∧ Bd 20 p := by
  have h : x / 9 % 2 = 0 ∨ x / 9 % 2 = 1 := by omega
  rcases h with h | h <;> rw [h]
  · exact ⟨_, rfl, Bd.range (m := 1000000) (by omega) (by omega) (by decide)⟩
  · exact ⟨_, rfl, Bd.range (m := 1000000) (by omega) (by omega) (by decide)⟩
theorem sum_loop {n e : Nat} {F : List (Nat × List Int)} (h : St n F) (hn : n ≤ 7) (hb : ∀ a ∈ F, ∀ x ∈ a.2, Bd e x) (he : 1 ≤ e ∧ e ≤ 8000) (xs : List Int) (hx : xs.length = 9) (a1 : Sl) :
    ∃ ys s4 s5, loopF (.nm 4) b3_l_sum (rngD 0 F.length) [.ol (LF F), a1, .ol (xs.map PyData.int), .sh (T (List.replicate n 0)), .no, .no, .no, .no, .no] = .ok (.nx [.ol (LF F), a1, .ol (xs.map PyData.int), .sh (T ys), s4, s5, .no, .no, .no]) ∧ ys.length = n ∧ ∀ y ∈ ys, Bd (e + 30 + F.length) y := by
  have hF := h.le
  obtain ⟨_, q, ys, s4, s5, rfl, yl, yb⟩ := loop_inv (tg := .nm 4) (b := b3_l_sum) (fun i e' => ∃ ys s4 s5, e' = [.ol (LF F), a1, .ol (xs.map PyData.int), .sh (T ys), s4, s5, .no, .no, .no] ∧ ys.length = n ∧ ∀ y ∈ ys, Bd (e + 30 + i) y) (rngD 0 F.length)
    (env := [.ol (LF F), a1, .ol (xs.map PyData.int), .sh (T (List.replicate n 0)), .no, .no, .no, .no, .no]) ⟨_, .no, .no, rfl, by simp, fun y hy => by rw [List.eq_of_mem_replicate hy]; exact Bd.zero⟩ (by
      rintro i d _ hd ⟨ys, s4, s5, rfl, yl, yb⟩
      obtain ⟨hi, rfl⟩ := rng_get hd
      obtain ⟨a, ea⟩ : ∃ a, a = F[i] := ⟨_, rfl⟩
      have ha : a ∈ F := by rw [ea]; exact List.getElem_mem hi
      have al := h.len a ha
      have gi : F[i]? = some a := by rw [ea]; exact List.getElem?_eq_getElem hi
      have g1 : atI (LF F) (i : Int) = some (T a.2) := at_nat (by rw [List.getElem?_map, gi]; rfl)
      have g2 := at_fn (xs := xs) (p := i) (by omega)
      obtain ⟨p, gp, bp⟩ := part_pick (fn xs i)
      have cp := comp_pairs (tg := .tp [7, 8]) (fe := e2_l_sum) (own := [7, 8]) (E := [.ol (LF F), a1, .ol (xs.map PyData.int), .sh (T ys), .sh (.int i), .sh (.int p), .no, .no, .no])
        (fun x y => x + p * y) ys a.2 (by omega) (fun x hx y hy => by
          have m1 : mulOk p y = true := bp.mOk (hb a ha y hy) (by omega)
          refine ⟨_, rfl, ?_, rfl⟩
          unfold e2_l_sum
          simp [mulD_int m1])
      refine ⟨_, [.ol (LF F), a1, .ol (xs.map PyData.int), .sh (T (List.zipWith (fun x y => x + p * y) ys a.2)), .sh (.int i), .sh (.int p), .no, .no, .no], rfl, .inl ?_, _, _, _, rfl, by simp [yl, al], fun y hy => ?_⟩
      · generalize List.zipWith (fun x y => x + p * y) ys a.2 = Z at *
        unfold b3_l_sum
        simp only [T] at g1 cp ⊢
        generalize LF F = FD at *
        simp [g1, g2, modD_int, divD_s, gp]
        rw [cp]
        simp
      · obtain ⟨j, hj, rfl⟩ := List.mem_iff_getElem.mp hy
        simp at hj
        simp only [List.getElem_zipWith]
        exact (yb _ (List.getElem_mem (by omega))).add (bp.mul (hb a ha _ (List.getElem_mem (by omega)))) (by omega) (by omega))
  rw [rng_len] at yb
  exact ⟨ys, s4, s5, q, yl, yb⟩
theorem zeros_rep {n : Nat} (hn : n ≤ 1000) : mulD (.list [PyData.int 0]) (.int n) = some (.ol (List.replicate n (PyData.int 0))) := by
  rw [mulD_rep ⟨by omega, by omega, by simp; omega⟩, Int.toNat_natCast, List.flatten_replicate_singleton]
theorem sum_ok {n e : Nat} {F : List (Nat × List Int)} (h : St n F) (hn : n ≤ 7) (hb : ∀ a ∈ F, ∀ x ∈ a.2, Bd e x) (he : 1 ≤ e ∧ e ≤ 8000) (xs : List Int) (hx : xs.length = 9) :
    ∃ ys, f_l_sum [.ol (LF F), .sh (.int n), .ol (xs.map PyData.int)] = .ok (.sh (T ys), [.ol (LF F), .sh (.int n), .ol (xs.map PyData.int)]) ∧ ys.length = n ∧ ∀ y ∈ ys, Bd (e + 40) y := by
  have hF := h.le
  obtain ⟨ys, s4, s5, q, yl, yb⟩ := sum_loop h hn hb he xs hx (.sh (.int n))
  have yb : ∀ y ∈ ys, Bd (e + 40) y := fun y hy => (yb y hy).mono (by omega)
  have dv := l_divisor_ok ys
  have g7 := at_fn (xs := xs) (p := 7) (by omega)
  have zr := zeros_rep (n := n) (by omega)
  have er : (List.replicate n (0 : Int)).map PyData.int = List.replicate n (PyData.int 0) := by simp
  have h1 : (F.length : Int) < 4611686018427387904 := by omega
  have h2 : -4611686018427387904 ≤ (F.length : Int) := by omega
  have lf : ((LF F).length : Int) = F.length := by simp
  obtain ⟨c, hc⟩ : ∃ c : Int, c = (cont ys : Int) := ⟨_, rfl⟩
  rw [← hc] at dv
  simp only [T, er] at q
  have g7' : atI (xs.map PyData.int) 7 = some (.int (fn xs 7)) := g7
  generalize fn xs 7 = x7 at *
  by_cases hcc : 0 < c ∧ 0 < x7 % 3
  · have cm := comp_ints (tg := .nm 7) (fe := e1_l_sum) (own := [7]) (E := [.ol (LF F), .sh (.int n), .ol (xs.map PyData.int), .sh (T ys), s4, s5, .sh (.int c), .no, .no]) (fun y v => v = y / c) ys (by omega) (fun y hy => by
      have dvk : divOk y c = true := dOk_of (by omega) ((yb y hy).mono (by omega))
      have ef : y.fdiv c = y / c := Int.fdiv_eq_ediv_of_nonneg _ (by omega)
      refine ⟨y / c, rfl, _, rfl, ?_, rfl⟩
      unfold e1_l_sum
      simp [divD_int dvk, ef])
    obtain ⟨g, hg, cm⟩ := cm
    refine ⟨ys.map g, ?_, by simp [yl], fun y hy => ?_⟩
    · unfold f_l_sum
      rw [run_eq]
      simp only [T] at dv cm ⊢
      generalize LF F = FD at *
      simp [zr, lf, h1, h2]
      rw [q]
      simp [dv, gtD, hcc, g7', modD_int]
      rw [cm]
      simp [T, backArgs_eq, List.range_succ]
    · obtain ⟨x, hx', rfl⟩ := List.mem_map.mp hy
      rw [hg x hx']
      exact ediv_bd (yb x hx') hcc.1
  · refine ⟨ys, ?_, yl, yb⟩
    unfold f_l_sum
    rw [run_eq]
    simp only [T] at dv ⊢
    generalize LF F = FD at *
    simp [zr, lf, h1, h2]
    rw [q]
    by_cases c0 : 0 < c
    · have x0 : ¬ 0 < x7 % 3 := fun q => hcc ⟨c0, q⟩
      simp [dv, gtD, c0, x0, g7', modD_int, backArgs_eq, List.range_succ]
    · simp [dv, gtD, c0, g7', modD_int, backArgs_eq, List.range_succ]
theorem rep_int (n : Nat) : List.replicate n (PyData.int 0) = (List.replicate n (0 : Int)).map PyData.int := by simp
theorem law_true (ns : List Int) (_ : ns.length ≤ 63) : ∃ as, f_law [.sc ns] = .ok (.sh (.bool true), as) := by
  obtain ⟨n, lines, hl, L⟩ := lines_ok ns
  obtain ⟨F, s1, m1⟩ := L.settled
  have n7 := L.n7
  have n1 := L.n1
  have lle := L.le
  have eye := settled_eye m1.st (by omega)
  have hF := m1.st.le
  have rt : ∀ (ys : List Int), ys.length = n → (∀ y ∈ ys, Bd 20000 y) → f_l_right [.ol (LF F), .sh (T ys)] = .ok (.sh (.bool true), [.ol (LF F), .sh (T ys)]) := fun ys hy hb => right_ok m1.st n7 m1.bd (by omega) ys hy hb (by omega)
  have h1 : (n : Int) < 4611686018427387904 := by omega
  have h2 : -4611686018427387904 ≤ (n : Int) := by omega
  have np : (0 : Int) < (n : Int) := by omega
  -- three sums
  obtain ⟨_, q1, s4, s5, s6, s7, s8, rfl⟩ := loop_inv (tg := .nm 4) (b := b2_law) (fun i e => ∃ s4 s5 s6 s7 s8, e = [.sc ns, .sh (.int n), .sh (.list (lines.map T)), .ol (LF F), s4, s5, s6, s7, s8]) (rngD 0 3) (env := [.sc ns, .sh (.int n), .sh (.list (lines.map T)), .ol (LF F), .no, .no, .no, .no, .no]) ⟨.no, .no, .no, .no, .no, rfl⟩ (by
    rintro i d _ hd ⟨s4, s5, s6, s7, s8, rfl⟩
    obtain ⟨hi, rfl⟩ := rng_get hd
    obtain ⟨c, hc⟩ := cell_at ns (50 + (i : Int)) (by omega)
    obtain ⟨xs, hs, xl, xb⟩ := stream c (70 + (i : Int)) (by omega) (by omega) 9 (by omega)
    have hs : f_l_stream [.sh (.int c), .sh (.int (70 + (i : Int))), .sh (.int 9)] = .ok (.ol (xs.map PyData.int), [.sh (.int c), .sh (.int (70 + (i : Int))), .sh (.int 9)]) := hs
    obtain ⟨ys, sq, yl, yb⟩ := sum_ok m1.st n7 m1.bd (by omega) xs xl
    have g8 := at_fn (xs := xs) (p := 8) (by omega)
    have g8 : atI (xs.map PyData.int) 8 = some (.int (fn xs 8)) := g8
    generalize fn xs 8 = x8 at *
    obtain ⟨p, hp⟩ : ∃ p : Nat, (p : Int) = x8 % (n : Int) := ⟨(x8 % (n : Int)).toNat, Int.toNat_of_nonneg (Int.emod_nonneg _ (by omega))⟩
    have pn : p < n := by have := Int.emod_lt_of_pos x8 np; omega
    have gy := at_fn (xs := ys) (p := p) (by omega)
    have b1 : Bd 1980 (fn ys p) := (fn_bd yb p).mono (by omega)
    obtain ⟨v, hv⟩ : ∃ v : Int, v = fn ys p + 1 + x8 / 7 % 3 := ⟨_, rfl⟩
    have bv : Bd 2000 v := by
      rw [hv]
      exact ((b1.add (Bd.lit (k := 1980) (x := 1) (by decide)) (by omega) (by omega) : Bd 1990 _)).add (Bd.range (k := 1990) (m := 3) (by omega) (by omega) (by decide)) (by omega) (by omega)
    obtain ⟨zs, hz⟩ : ∃ zs, zs = ys.take p ++ ([v] ++ ys.drop (p + 1)) := ⟨_, rfl⟩
    have zl : zs.length = n := by rw [hz]; simp; omega
    have zb : ∀ z ∈ zs, Bd 20000 z := fun z hm => by
      rw [hz] at hm
      rcases List.mem_append.mp hm with hm | hm
      · exact (yb z (List.mem_of_mem_take hm)).mono (by omega)
      · rcases List.mem_append.mp hm with hm | hm
        · rw [List.mem_singleton] at hm; rw [hm]; exact bv.mono (by omega)
        · exact (yb z (List.mem_of_mem_drop hm)).mono (by omega)
    have r1 := rt ys yl fun y hy => (yb y hy).mono (by omega)
    have r2 := rt zs zl zb
    have ez : zs.map PyData.int = (ys.map PyData.int).take p ++ (PyData.int v :: (ys.map PyData.int).drop (p + 1)) := by rw [hz]; simp
    have c1 : cutG (ys.map PyData.int) none (some (p : Int)) = (ys.map PyData.int).take p := cutG_to _ _
    have c2 : cutG (ys.map PyData.int) (some ((p : Int) + 1)) none = (ys.map PyData.int).drop (p + 1) := cutG_from _ (p + 1)
    have l1 : ((ys.map PyData.int).take p).length + 1 ≤ 16777216 := by simp; omega
    have l2 : ((ys.map PyData.int).take p ++ [PyData.int v]).length + ((ys.map PyData.int).drop (p + 1)).length ≤ 16777216 := by simp; omega
    refine ⟨_, [.sc ns, .sh (.int n), .sh (.list (lines.map T)), .ol (LF F), .sh (.int i), .ol (xs.map PyData.int), .sh (T ys), .sh (.int p), .sh (T zs)], rfl, .inl ?_, _, _, _, _, _, rfl⟩
    simp only [T, ez] at r1 r2 sq ⊢
    generalize (ys.map PyData.int).take p = TK at *
    generalize (ys.map PyData.int).drop (p + 1) = DR at *
    generalize ys.map PyData.int = YD at *
    generalize xs.map PyData.int = XD at *
    generalize LF F = FD at *
    unfold b2_law
    simp [hc, hs, sq, g8, modD_int np, ← hp, c1, gy, divD_s, modD_int, ← hv]
    have l1' : TK.length ≤ 16777215 := by omega
    simp [c2, l1, l1'] at l2 ⊢
    simp [l2, r1, r2])
  -- the lines, noughts, a drawn one
  obtain ⟨y61, q61, yl61, yb61, yb62⟩ := line_ok ns 61 n (by omega) (by omega) [] (by simp) (10 ^ 30) (Nat.le_refl _) (Nat.lt_of_lt_of_le (show 10 ^ 30 < 2 ^ 100 by decide) (Nat.pow_le_pow_right (by decide) (by omega))) (by simp)
  have b61 : ∀ y ∈ y61, Bd 20000 y := fun y hy => by
    have := yb62 rfl y hy
    have p : (10 : Nat) ^ 30 < 2 ^ 100 := by decide
    exact (show Bd 100 y from Nat.lt_of_le_of_lt this p).mono (by omega)
  obtain ⟨all, hall⟩ : ∃ all, all = lines.take 8 ++ [List.replicate n 0, y61] := ⟨_, rfl⟩
  obtain ⟨_, q2, s6', rfl⟩ := loop_inv (tg := .nm 6) (b := b1_law) (fun i e => ∃ s6, e = [.sc ns, .sh (.int n), .sh (.list (lines.map T)), .ol (LF F), s4, s5, s6, s7, s8]) (all.map T) (env := [.sc ns, .sh (.int n), .sh (.list (lines.map T)), .ol (LF F), s4, s5, s6, s7, s8]) ⟨s6, rfl⟩ (by
    rintro i d _ hd ⟨s6, rfl⟩
    obtain ⟨l, hm, rfl⟩ := List.mem_map.mp (List.mem_of_getElem? hd)
    have r : f_l_right [.ol (LF F), .sh (T l)] = .ok (.sh (.bool true), [.ol (LF F), .sh (T l)]) := by
      rw [hall] at hm
      rcases List.mem_append.mp hm with hm | hm
      · have hm := List.mem_of_mem_take hm
        exact rt l (L.len l hm) fun y hy => (L.bd l hm y hy).mono (by omega)
      · rcases List.mem_cons.mp hm with rfl | hm
        · exact rt _ (by simp) fun y hy => by rw [List.eq_of_mem_replicate hy]; exact Bd.zero
        · rw [List.mem_singleton] at hm
          subst hm
          exact rt _ yl61 b61
    refine ⟨_, [.sc ns, .sh (.int n), .sh (.list (lines.map T)), .ol (LF F), s4, s5, .sh (T l), s7, s8], rfl, .inl ?_, _, rfl⟩
    simp only [T] at r ⊢
    generalize LF F = FD at *
    unfold b1_law
    simp [r])
  -- of no lines
  have st0 : St n [] := ⟨.nil, nofun, nofun, nofun, nofun, nofun⟩
  have mz := made_of_ok (e := 1) (k := 1) st0 n7 (by simp) (by omega) (List.replicate n 0) (by simp) (fun y hy => by rw [List.eq_of_mem_replicate hy]; exact Bd.zero) (by omega) 1 rfl
  have fz : ∀ j, fn (List.replicate n (0 : Int)) j = 0 := fun j => by
    unfold fn
    rw [List.getElem?_replicate]
    split <;> rfl
  have mz : f_made_of [.ol [], .sh (T (List.replicate n 0))] = .ok (.tt (.int 1) [], [.ol [], .sh (T (List.replicate n 0))]) := by
    rcases mz with ⟨_, q⟩ | ⟨w, _⟩
    · exact q
    · exact absurd (fun j _ => by rw [fz j]; rfl) w
  have mo := made_of_ok (e := 1) (k := 1) st0 n7 (by simp) (by omega) (List.replicate (n - 1) 0 ++ [1]) (by simp; omega) (fun y hy => by
    rcases List.mem_append.mp hy with hy | hy
    · rw [List.eq_of_mem_replicate hy]; exact Bd.zero
    · rw [List.mem_singleton] at hy; rw [hy]; exact Bd.lit (by decide)) (by omega) 1 rfl
  have mo : f_made_of [.ol [], .sh (T (List.replicate (n - 1) 0 ++ [1]))] = .ok (.sh .none, [.ol [], .sh (T (List.replicate (n - 1) 0 ++ [1]))]) := by
    rcases mo with ⟨w, _⟩ | ⟨_, q⟩
    · have := w (n - 1) (by omega)
      have e : fn (List.replicate (n - 1) (0 : Int) ++ [1]) (n - 1) = 1 := by
        unfold fn
        rw [List.getElem?_append_right (by simp)]
        simp
      rw [e] at this
      exact absurd this (by show ¬ ((0 : Int) = 1 * 1); decide)
    · exact q
  have zr := zeros_rep (n := n) (by omega)
  have zr2 := zeros_rep (n := n - 1) (by omega)
  have en : ((n - 1 : Nat) : Int) = (n : Int) - 1 := by omega
  rw [en] at zr2
  have e1 : T (List.replicate n 0) = .tuple (List.replicate n (PyData.int 0)) := by rw [rep_int]
  have e2 : T (List.replicate (n - 1) 0 ++ [1]) = .tuple (List.replicate (n - 1) (PyData.int 0) ++ [PyData.int 1]) := by rw [rep_int]; simp [T]
  rw [e1] at mz
  rw [e2] at mo
  have c8 : cutG (lines.map T) none (some 8) = (lines.map T).take 8 := cutG_to _ 8
  have ea : all.map T = (lines.map T).take 8 ++ [.tuple (List.replicate n (PyData.int 0)), T y61] := by rw [hall, ← e1]; simp
  have lt : ((lines.map T).take 8).length + 2 ≤ 16777216 := by simp; omega
  have lt' : ((lines.map T).take 8).length ≤ 16777214 := by omega
  rw [ea] at q2
  have ad : addD (.list (List.replicate (n - 1) (PyData.int 0))) (.list [PyData.int 1]) = some (.ol (List.replicate (n - 1) (PyData.int 0) ++ [PyData.int 1])) := by
    rw [addD_list, if_pos (by simp; omega)]
  have ad8 : addD (.list ((lines.map T).take 8)) (.list [.tuple (List.replicate n (PyData.int 0)), T y61]) = some (.ol ((lines.map T).take 8 ++ [.tuple (List.replicate n (PyData.int 0)), T y61])) := by
    rw [addD_list, if_pos (by simp; omega)]
  have lay : Lay 2 (.tuple [.int 1, .list []]) := .tuple fun d hd => by
    rcases List.mem_cons.mp hd with rfl | hd
    · exact (Lay.int 1).mono (by omega)
    · rw [List.mem_singleton] at hd
      subst hd
      exact .list (by simp)
  have y1 := lay.shaped
  have z1 := lay.refl
  rw [List.map_nil] at q61
  have q61 : f_l_line [.sc ns, .sh (.int 61), .sh (.int n), .ol []] = .ok (.sh (T y61), [.sc ns, .sh (.int 61), .sh (.int n), .ol []]) := q61
  refine ⟨[.sc ns], ?_⟩
  unfold f_law
  rw [run_eq]
  generalize (lines.map T).take 8 ++ [.tuple (List.replicate n (PyData.int 0)), T y61] = AD at *
  generalize (lines.map T).take 8 = L8 at *
  generalize List.replicate (n - 1) (PyData.int 0) ++ [PyData.int 1] = Z1 at *
  generalize List.replicate (n - 1) (PyData.int 0) = Z0 at *
  generalize List.replicate n (PyData.int 0) = ZZ at *
  generalize T y61 = TY at *
  generalize lines.map T = LD at *
  generalize LF F = FD at *
  simp [hl, s1, eye]
  rw [show rngD 0 3 = rngD 0 3 from rfl] at q1
  rw [q1]
  simp [c8, zr, q61, ad8]
  rw [q2]
  simp [zr, mz, eqD_ok, y1, z1, zr2, ad, mo, backArgs_eq, List.range_succ]

def topS (i : Nat) : Stmt := PySem.Challenge.pw_evennotes_k04_what_is_made.main.body.getD i (.Pass ⟨0, 0, 0, 0⟩)
structure Zs (mg : Str → Option Value) : Prop where
  abs : mg "abs" = none
  range : mg "range" = none
  len : mg "len" = none
  tuple : mg "tuple" = none
  zip : mg "zip" = none
  sorted : mg "sorted" = none
  list : mg "list" = none
  sum : mg "sum" = none
  isinstance : mg "isinstance" = none
  bool : mg "bool" = none
  int : mg "int" = none
abbrev s_greatest_divisor : Stmt := topS 1
abbrev N_greatest_divisor : List Str := ["one", "other", "rest"]
theorem sc_greatest_divisor : FnScope ["one", "other", "rest"] ["one", "other"] (defScope s_greatest_divisor) := ⟨rfl, rfl, rfl, by decide +kernel, rfl, by decide +kernel, by decide +kernel⟩
abbrev s_head : Stmt := topS 2
abbrev N_head : List Str := ["line", "place"]
theorem sc_head : FnScope ["line", "place"] ["line"] (defScope s_head) := ⟨rfl, rfl, rfl, by decide +kernel, rfl, by decide +kernel, by decide +kernel⟩
abbrev s_primitive : Stmt := topS 3
abbrev N_primitive : List Str := ["line", "found", "number"]
theorem sc_primitive : FnScope ["line", "found", "number"] ["line"] (defScope s_primitive) := ⟨rfl, rfl, rfl, by decide +kernel, rfl, by decide +kernel, by decide +kernel⟩
abbrev s_cleared : Stmt := topS 4
abbrev N_cleared : List Str := ["line", "other", "place", "found", "a", "b"]
theorem sc_cleared : FnScope ["line", "other", "place", "found", "a", "b"] ["line", "other", "place"] (defScope s_cleared) := ⟨rfl, rfl, rfl, by decide +kernel, rfl, by decide +kernel, by decide +kernel⟩
abbrev s_put_in : Stmt := topS 5
abbrev N_put_in : List Str := ["by_head", "line", "left"]
theorem sc_put_in : FnScope ["by_head", "line", "left"] ["by_head", "line"] (defScope s_put_in) := ⟨rfl, rfl, rfl, by decide +kernel, rfl, by decide +kernel, by decide +kernel⟩
abbrev s_settled : Stmt := topS 6
abbrev N_settled : List Str := ["lines", "by_head", "line", "found", "place", "lower"]
theorem sc_settled : FnScope ["lines", "by_head", "line", "found", "place", "lower"] ["lines"] (defScope s_settled) := ⟨rfl, rfl, rfl, by decide +kernel, rfl, by decide +kernel, by decide +kernel⟩
abbrev s_made_of : Stmt := topS 7
abbrev N_made_of : List Str := ["lines", "line", "times", "one", "part", "need", "multiples", "place", "many"]
theorem sc_made_of : FnScope ["lines", "line", "times", "one", "part", "need", "multiples", "place", "many"] ["lines", "line"] (defScope s_made_of) := ⟨rfl, rfl, rfl, by decide +kernel, rfl, by decide +kernel, by decide +kernel⟩
abbrev s_l_cell_at : Stmt := topS 9
abbrev N_l_cell_at : List Str := ["_law_script", "_law_k"]
theorem sc_l_cell_at : FnScope ["_law_script", "_law_k"] ["_law_script", "_law_k"] (defScope s_l_cell_at) := ⟨rfl, rfl, rfl, by decide +kernel, rfl, by decide +kernel, by decide +kernel⟩
abbrev s_l_stream : Stmt := topS 10
abbrev N_l_stream : List Str := ["_law_cell", "_law_salt", "_law_many", "_law_number", "_law_found", "_law_k"]
theorem sc_l_stream : FnScope ["_law_cell", "_law_salt", "_law_many", "_law_number", "_law_found", "_law_k"] ["_law_cell", "_law_salt", "_law_many"] (defScope s_l_stream) := ⟨rfl, rfl, rfl, by decide +kernel, rfl, by decide +kernel, by decide +kernel⟩
abbrev s_l_entry : Stmt := topS 11
abbrev N_l_entry : List Str := ["_law_x", "_law_way"]
theorem sc_l_entry : FnScope ["_law_x", "_law_way"] ["_law_x", "_law_way"] (defScope s_l_entry) := ⟨rfl, rfl, rfl, by decide +kernel, rfl, by decide +kernel, by decide +kernel⟩
abbrev s_l_line : Stmt := topS 12
abbrev N_l_line : List Str := ["_law_script", "_law_k", "_law_long", "_law_lines_here", "_law_xs", "_law_way", "_law_one", "_law_other", "_law_a", "_law_b", "_law_x", "_law_y"]
theorem sc_l_line : FnScope ["_law_script", "_law_k", "_law_long", "_law_lines_here", "_law_xs", "_law_way", "_law_one", "_law_other", "_law_a", "_law_b", "_law_x", "_law_y"] ["_law_script", "_law_k", "_law_long", "_law_lines_here"] (defScope s_l_line) := ⟨rfl, rfl, rfl, by decide +kernel, rfl, by decide +kernel, by decide +kernel⟩
abbrev s_l_lines : Stmt := topS 13
abbrev N_l_lines : List Str := ["_law_script", "_law_first", "_law_long", "_law_many", "_law_lines_here", "_law_k"]
theorem sc_l_lines : FnScope ["_law_script", "_law_first", "_law_long", "_law_many", "_law_lines_here", "_law_k"] ["_law_script"] (defScope s_l_lines) := ⟨rfl, rfl, rfl, by decide +kernel, rfl, by decide +kernel, by decide +kernel⟩
abbrev s_l_head : Stmt := topS 14
abbrev N_l_head : List Str := ["_law_line_here", "_law_found", "_law_place"]
theorem sc_l_head : FnScope ["_law_line_here", "_law_found", "_law_place"] ["_law_line_here"] (defScope s_l_head) := ⟨rfl, rfl, rfl, by decide +kernel, rfl, by decide +kernel, by decide +kernel⟩
abbrev s_l_divisor : Stmt := topS 15
abbrev N_l_divisor : List Str := ["_law_numbers", "_law_found", "_law_number", "_law_one", "_law_rest"]
theorem sc_l_divisor : FnScope ["_law_numbers", "_law_found", "_law_number", "_law_one", "_law_rest"] ["_law_numbers"] (defScope s_l_divisor) := ⟨rfl, rfl, rfl, by decide +kernel, rfl, by decide +kernel, by decide +kernel⟩
abbrev s_l_is_settled : Stmt := topS 16
abbrev N_l_is_settled : List Str := ["_law_found", "_law_long", "_law_line_here", "_law_heads", "_law_k", "_law_x"]
theorem sc_l_is_settled : FnScope ["_law_found", "_law_long", "_law_line_here", "_law_heads", "_law_k", "_law_x"] ["_law_found", "_law_long"] (defScope s_l_is_settled) := ⟨rfl, rfl, rfl, by decide +kernel, rfl, by decide +kernel, by decide +kernel⟩
abbrev s_l_makes : Stmt := topS 17
abbrev N_l_makes : List Str := ["_law_some", "_law_line_here", "_law_all_heads", "_law_one", "_law_place", "_law_total", "_law_at", "_law_part"]
theorem sc_l_makes : FnScope ["_law_some", "_law_line_here", "_law_all_heads", "_law_one", "_law_place", "_law_total", "_law_at", "_law_part"] ["_law_some", "_law_line_here"] (defScope s_l_makes) := ⟨rfl, rfl, rfl, by decide +kernel, rfl, by decide +kernel, by decide +kernel⟩
abbrev s_l_right : Stmt := topS 18
abbrev N_l_right : List Str := ["_law_some", "_law_line_here", "_law_found", "_law_times", "_law_multiples", "_law_place", "_law_kept", "_law_x", "_law_many", "_law_one"]
theorem sc_l_right : FnScope ["_law_some", "_law_line_here", "_law_found", "_law_times", "_law_multiples", "_law_place", "_law_kept", "_law_x", "_law_many", "_law_one"] ["_law_some", "_law_line_here"] (defScope s_l_right) := ⟨rfl, rfl, rfl, by decide +kernel, rfl, by decide +kernel, by decide +kernel⟩
abbrev s_l_sum : Stmt := topS 19
abbrev N_l_sum : List Str := ["_law_some", "_law_long", "_law_xs", "_law_line_here", "_law_k", "_law_part", "_law_common", "_law_x", "_law_y"]
theorem sc_l_sum : FnScope ["_law_some", "_law_long", "_law_xs", "_law_line_here", "_law_k", "_law_part", "_law_common", "_law_x", "_law_y"] ["_law_some", "_law_long", "_law_xs"] (defScope s_l_sum) := ⟨rfl, rfl, rfl, by decide +kernel, rfl, by decide +kernel, by decide +kernel⟩
abbrev s_law : Stmt := topS 20
abbrev N_law : List Str := ["_law_script", "_law_long", "_law_lines_here", "_law_some", "_law_k", "_law_xs", "_law_line_here", "_law_at", "_law_other"]
theorem sc_law : FnScope ["_law_script", "_law_long", "_law_lines_here", "_law_some", "_law_k", "_law_xs", "_law_line_here", "_law_at", "_law_other"] ["_law_script"] (defScope s_law) := ⟨rfl, rfl, rfl, by decide +kernel, rfl, by decide +kernel, by decide +kernel⟩
section
variable {P : Program} {w : World} {K : PySem.W.Frag} {mg : Str → Option Value} {base : Heap}
theorem ok_greatest_divisor {f : Addr} {fd : FuncData} (F : Fun K "greatest_divisor" "greatest_divisor" s_greatest_divisor f fd) (Z : Zs mg)  : FnOk P w K mg base CX0 1 f fd ["one", "other"] (spF K mg 2 f_greatest_divisor) :=
  have nd := sc_greatest_divisor.nd
  fn_ok F sc_greatest_divisor (by decide) fun cdv A outer s H E hr =>
    (ss_cons (ss_set (i := 0) nd rfl (.inl rfl) (se_abs Z.abs (sa_cons (se_v 0) sa_nil)))
    (ss_cons (ss_set (i := 1) nd rfl (.inl rfl) (se_abs Z.abs (sa_cons (se_v 1) sa_nil)))
    (ss_cons (ss_while (natS 1) PassesOwn.never (st_cmp op_gt so_cmp (se_v 1) se_int (nomark _))
    (ss_cons (ss_set (i := 2) nd rfl (.inl rfl) (se_mod (se_v 0) (se_v 1)))
    (ss_cons (ss_set (i := 0) nd rfl (.inl rfl) (se_v 1))
    (ss_one (ss_set (i := 1) nd rfl (.inl rfl) (se_v 2))))))
    (ss_one (ss_ret (se_v 0))))))
theorem ok_head {f : Addr} {fd : FuncData} (F : Fun K "head" "head" s_head f fd) (Z : Zs mg)  : FnOk P w K mg base CX0 1 f fd ["line"] (spF K mg 1 f_head) :=
  have nd := sc_head.nd
  fn_ok F sc_head (by decide) fun cdv A outer s H E hr =>
    (ss_cons (ss_for PassesOwn.never rfl (si_rng3 (by rfl) Z.range (sa_cons (se_sub (se_len Z.len (sa_cons (se_v 0) sa_nil)) se_int) (sa_cons (se_neg se_int) (sa_cons (se_neg se_int) sa_nil)))) (pg_name (i := 1) nd rfl (.inl rfl)) semg_nm
    (ss_one (ss_if (st_cmp (op_neD hr.units) so_ne (se_ix (se_v 0) (se_v 1)) se_int (nomark _))
    (ss_one (ss_ret (se_v 1)))
    ss_nil)))
    (ss_one (ss_ret se_non)))
theorem ok_primitive {f : Addr} {fd : FuncData} (F : Fun K "primitive" "primitive" s_primitive f fd) (Z : Zs mg) (C_head : FnF P w K mg base "head" 1 1 f_head) (C_greatest_divisor : FnF P w K mg base "greatest_divisor" 2 1 f_greatest_divisor) : FnOk P w K mg base CX0 2 f fd ["line"] (spF K mg 1 f_primitive) :=
  have nd := sc_primitive.nd
  fn_ok F sc_primitive (by decide) fun cdv A outer s H E hr =>
    (ss_cons (ss_set (i := 1) nd rfl (.inr rfl) se_int)
    (ss_cons (ss_forB (i := 0) PassesOwn.never rfl rfl (by first | exact Or.inl rfl | exact Or.inr (Or.inl rfl) | exact Or.inr (Or.inr rfl)) (pg_name (i := 2) nd rfl (.inl rfl)) semg_nm
    (ss_one (ss_set (i := 1) nd rfl (.inr rfl) (se_call C_greatest_divisor (hr.mono (by decide)) (by rfl) (sa_cons (se_v 1) (sa_cons (se_v 2) sa_nil)) (ar_cons (ar_cons ar_nil))))))
    (ss_cons (ss_if (st_cmp (op_eqD hr.units) so_eq (se_v 1) se_int (nomark _))
    (ss_one (ss_ret (se_v 0)))
    ss_nil)
    (ss_cons (ss_if (st_cmp op_lt so_cmp (se_ix (se_v 0) (se_call C_head (hr.mono (by decide)) (by rfl) (sa_cons (se_v 0) sa_nil) (ar_cons ar_nil))) se_int (nomark _))
    (ss_one (ss_set (i := 1) nd rfl (.inr rfl) (se_neg (se_v 1))))
    ss_nil)
    (ss_one (ss_ret (se_ttuple Z.tuple (sa_cons (se_lcB (own := [("number", 2)]) rfl nd (j := 0) rfl (by first | exact Or.inl rfl | exact Or.inr (Or.inl rfl) | exact Or.inr (Or.inr rfl)) (by exact blkOk_by (N := N_primitive) (sc := defScope s_primitive) (own := [("number", 2)]) (by decide +kernel)) semg_nm (by decide) (fun _ _ _ _ _ => (pg_name (i := 2) nd rfl (by first | exact .inl rfl | exact .inr rfl))) (fun _ _ _ _ _ => sts_nil) (fun _ _ _ _ _ => (se_div (se_v 2) (se_v 1)))) sa_nil))))))))
theorem ok_cleared {f : Addr} {fd : FuncData} (F : Fun K "cleared" "cleared" s_cleared f fd) (Z : Zs mg) (C_primitive : FnF P w K mg base "primitive" 1 2 f_primitive) : FnOk P w K mg base CX0 3 f fd ["line", "other", "place"] (spF K mg 3 f_cleared) :=
  have nd := sc_cleared.nd
  fn_ok F sc_cleared (by decide) fun cdv A outer s H E hr =>
    (ss_cons (ss_setLc (own := [("a", 4), ("b", 5)]) (i := 3) rfl nd rfl rfl (sw_true rfl rfl rfl (by decide +kernel)) (si_zip (by rfl) Z.zip (sa_cons (se_v 0) (sa_cons (se_v 1) sa_nil))) (by exact blkOk_by (N := N_cleared) (sc := defScope s_cleared) (own := [("a", 4), ("b", 5)]) (by decide +kernel)) (semg_tp (is := [4, 5])) (by decide) (fun _ _ _ _ _ => (pg_tup rfl (pgs_cons (pg_name (i := 4) nd rfl (by first | exact .inl rfl | exact .inr rfl)) (pgs_cons (pg_name (i := 5) nd rfl (by first | exact .inl rfl | exact .inr rfl)) pgs_nil)))) (fun _ _ _ _ _ => sts_nil) (fun _ _ _ _ _ => (se_sub (se_mul (se_v 4) (se_ix (se_v 1) (se_v 2))) (se_mul (se_v 5) (se_ix (se_v 0) (se_v 2))))))
    (ss_one (ss_ret (se_call C_primitive (hr.mono (by decide)) (by rfl) (sa_cons (se_ttuple Z.tuple (sa_cons (se_v 3) sa_nil)) sa_nil) (ar_cons ar_nil)))))
theorem ok_put_in {f : Addr} {fd : FuncData} (F : Fun K "put_in" "put_in" s_put_in f fd) (Z : Zs mg) (C_head : FnF P w K mg base "head" 1 1 f_head) (C_cleared : FnF P w K mg base "cleared" 3 3 f_cleared) (C_primitive : FnF P w K mg base "primitive" 1 2 f_primitive) : FnOk P w K mg base CX0 4 f fd ["by_head", "line"] (spF K mg 2 f_put_in) :=
  have nd := sc_put_in.nd
  fn_ok F sc_put_in (by decide) fun cdv A outer s H E hr =>
    (ss_cons (ss_set (i := 2) nd rfl (.inl rfl) (se_call C_primitive (hr.mono (by decide)) (by rfl) (sa_cons (se_v 1) sa_nil) (ar_cons ar_nil)))
    (ss_cons (ss_while (fun _ => 1000) PassesOwn.never (st_of (sw_and (st_cmp op_notN so_notN (se_call C_head (hr.mono (by decide)) (by rfl) (sa_cons (se_v 2) sa_nil) (ar_cons ar_nil)) se_non (nomark _)) (sw_and1 (st_din (i := 0) (hu_of hr) rfl (by first | exact Or.inl rfl | exact Or.inr (Or.inl rfl) | exact Or.inr (Or.inr rfl)) (se_call C_head (hr.mono (by decide)) (by rfl) (sa_cons (se_v 2) sa_nil) (ar_cons ar_nil))))))
    (ss_one (ss_set (i := 2) nd rfl (.inl rfl) (se_call C_cleared (hr.mono (by decide)) (by rfl) (sa_cons (se_v 2) (sa_cons (se_dget (i := 0) (hu_of hr) rfl (by first | exact Or.inl rfl | exact Or.inr (Or.inl rfl) | exact Or.inr (Or.inr rfl)) (se_call C_head (hr.mono (by decide)) (by rfl) (sa_cons (se_v 2) sa_nil) (ar_cons ar_nil))) (sa_cons (se_call C_head (hr.mono (by decide)) (by rfl) (sa_cons (se_v 2) sa_nil) (ar_cons ar_nil)) sa_nil))) (ar_cons (ar_cons (ar_cons ar_nil)))))))
    (ss_one (ss_if (st_cmp op_notN so_notN (se_call C_head (hr.mono (by decide)) (by rfl) (sa_cons (se_v 2) sa_nil) (ar_cons ar_nil)) se_non (nomark _))
    (ss_one (ss_dput (i := 0) (hu_of hr) rfl (by first | exact Or.inl rfl | exact Or.inr (Or.inl rfl) | exact Or.inr (Or.inr rfl)) (se_v 2) (se_call C_head (hr.mono (by decide)) (by rfl) (sa_cons (se_v 2) sa_nil) (ar_cons ar_nil))))
    ss_nil))))
theorem ok_settled {f : Addr} {fd : FuncData} (F : Fun K "settled" "settled" s_settled f fd) (Z : Zs mg) (C_cleared : FnF P w K mg base "cleared" 3 3 f_cleared) (C_head : FnF P w K mg base "head" 1 1 f_head) (C_put_in : FnF P w K mg base "put_in" 2 4 f_put_in) : FnOk P w K mg base CX0 5 f fd ["lines"] (spF K mg 1 f_settled) :=
  have nd := sc_settled.nd
  fn_ok F sc_settled (by decide) fun cdv A outer s H E hr =>
    (ss_cons (ss_set (i := 1) nd rfl (.inl rfl) se_d0)
    (ss_cons (ss_forB (i := 0) PassesOwn.never rfl rfl (by first | exact Or.inl rfl | exact Or.inr (Or.inl rfl) | exact Or.inr (Or.inr rfl)) (pg_name (i := 2) nd rfl (.inl rfl)) semg_nm
    (ss_one (ss_expr (se_call C_put_in (hr.mono (by decide)) (by rfl) (sa_cons (se_v 1) (sa_cons (se_v 2) sa_nil)) (ar_cons (ar_cons ar_nil))))))
    (ss_cons (ss_set (i := 3) nd rfl (.inl rfl) (se_lst sa_nil))
    (ss_cons (ss_for PassesOwn.never rfl (si_val (se_sorted Z.sorted (sa_cons (se_dkeys (i := 1) rfl Z.list rfl (by first | exact Or.inl rfl | exact Or.inr (Or.inl rfl) | exact Or.inr (Or.inr rfl))) sa_nil))) (pg_name (i := 4) nd rfl (.inl rfl)) semg_nm
    (ss_cons (ss_set (i := 2) nd rfl (.inl rfl) (se_dget (i := 1) (hu_of hr) rfl (by first | exact Or.inl rfl | exact Or.inr (Or.inl rfl) | exact Or.inr (Or.inr rfl)) (se_v 4)))
    (ss_cons (ss_forB (i := 3) PassesOwn.never rfl rfl (by first | exact Or.inl rfl | exact Or.inr (Or.inl rfl) | exact Or.inr (Or.inr rfl)) (pg_name (i := 5) nd rfl (.inl rfl)) semg_nm
    (ss_one (ss_set (i := 2) nd rfl (.inl rfl) (se_call C_cleared (hr.mono (by decide)) (by rfl) (sa_cons (se_v 2) (sa_cons (se_v 5) (sa_cons (se_call C_head (hr.mono (by decide)) (by rfl) (sa_cons (se_v 5) sa_nil) (ar_cons ar_nil)) sa_nil))) (ar_cons (ar_cons (ar_cons ar_nil)))))))
    (ss_one (ss_expr (se_mut (i := 3) PySem.F.slot_list_append PySem.F.type_list_append mt_append sm_append rfl (by first | exact Or.inl rfl | exact Or.inr (Or.inl rfl) | exact Or.inr (Or.inr rfl)) (sa_cons (se_v 2) sa_nil)))))))
    (ss_one (ss_ret (se_v 3)))))))
theorem ok_made_of {f : Addr} {fd : FuncData} (F : Fun K "made_of" "made_of" s_made_of f fd) (Z : Zs mg) (C_head : FnF P w K mg base "head" 1 1 f_head) (C_greatest_divisor : FnF P w K mg base "greatest_divisor" 2 1 f_greatest_divisor) : FnOk P w K mg base CX0 2 f fd ["lines", "line"] (spF K mg 2 f_made_of) :=
  have nd := sc_made_of.nd
  fn_ok F sc_made_of (by decide) fun cdv A outer s H E hr =>
    (ss_cons (ss_set (i := 2) nd rfl (.inr rfl) se_int)
    (ss_cons (ss_forB (i := 0) PassesOwn.never rfl rfl (by first | exact Or.inl rfl | exact Or.inr (Or.inl rfl) | exact Or.inr (Or.inr rfl)) (pg_name (i := 3) nd rfl (.inl rfl)) semg_nm
    (ss_cons (ss_set (i := 4) nd rfl (.inl rfl) (se_ix (se_v 3) (se_call C_head (hr.mono (by decide)) (by rfl) (sa_cons (se_v 3) sa_nil) (ar_cons ar_nil))))
    (ss_cons (ss_set (i := 5) nd rfl (.inl rfl) (se_div (se_v 4) (se_call C_greatest_divisor (hr.mono (by decide)) (by rfl) (sa_cons (se_v 4) (sa_cons (se_ix (se_v 1) (se_call C_head (hr.mono (by decide)) (by rfl) (sa_cons (se_v 3) sa_nil) (ar_cons ar_nil))) sa_nil)) (ar_cons (ar_cons ar_nil)))))
    (ss_one (ss_set (i := 2) nd rfl (.inr rfl) (se_div (se_mul (se_v 2) (se_v 5)) (se_call C_greatest_divisor (hr.mono (by decide)) (by rfl) (sa_cons (se_v 2) (sa_cons (se_v 5) sa_nil)) (ar_cons (ar_cons ar_nil)))))))))
    (ss_cons (ss_setLcB (own := [("one", 3)]) (i := 6) rfl nd rfl rfl (sw_true rfl rfl rfl (by decide +kernel)) (j := 0) rfl (by first | exact Or.inl rfl | exact Or.inr (Or.inl rfl) | exact Or.inr (Or.inr rfl)) (by exact blkOk_by (N := N_made_of) (sc := defScope s_made_of) (own := [("one", 3)]) (by decide +kernel)) semg_nm (by decide) (fun _ _ _ _ _ => (pg_name (i := 3) nd rfl (by first | exact .inl rfl | exact .inr rfl))) (fun _ _ _ _ _ => sts_nil) (fun _ _ _ _ _ => (se_div (se_mul (se_v 2) (se_ix (se_v 1) (se_call C_head (hr.mono (by decide)) (by rfl) (sa_cons (se_v 3) sa_nil) (ar_cons ar_nil)))) (se_ix (se_v 3) (se_call C_head (hr.mono (by decide)) (by rfl) (sa_cons (se_v 3) sa_nil) (ar_cons ar_nil))))))
    (ss_cons (ss_for PassesOwn.never rfl (si_rng1 (by rfl) Z.range (sa_cons (se_len Z.len (sa_cons (se_v 1) sa_nil)) sa_nil)) (pg_name (i := 7) nd rfl (.inr rfl)) semg_nm
    (ss_one (ss_if (st_cmp (op_neD hr.units) so_ne (se_sum rfl Z.sum (sa_cons (se_lcZ (own := [("many", 8), ("one", 3)]) rfl nd (by rfl) Z.zip (i := 6) (j := 0) rfl (by first | exact Or.inl rfl | exact Or.inr (Or.inl rfl) | exact Or.inr (Or.inr rfl)) rfl (by first | exact Or.inl rfl | exact Or.inr (Or.inl rfl) | exact Or.inr (Or.inr rfl)) (by exact blkOk_by (N := N_made_of) (sc := defScope s_made_of) (own := [("many", 8), ("one", 3)]) (by decide +kernel)) (semg_tp (is := [8, 3])) (by decide) (fun _ _ _ _ _ => (pg_tup rfl (pgs_cons (pg_name (i := 8) nd rfl (by first | exact .inl rfl | exact .inr rfl)) (pgs_cons (pg_name (i := 3) nd rfl (by first | exact .inl rfl | exact .inr rfl)) pgs_nil)))) (fun _ _ _ _ _ => sts_nil) (fun _ _ _ _ _ => (se_mul (se_v 8) (se_ix (se_v 3) (se_v 7))))) sa_nil)) (se_mul (se_v 2) (se_ix (se_v 1) (se_v 7))) (nomark _))
    (ss_one (ss_ret se_non))
    ss_nil)))
    (ss_one (ss_ret (se_tt (se_v 2) (se_v 6))))))))
theorem ok_l_cell_at {f : Addr} {fd : FuncData} (F : Fun K "_law_cell_at" "_law_cell_at" s_l_cell_at f fd) (Z : Zs mg)  : FnOk P w K mg base CX0 1 f fd ["_law_script", "_law_k"] (spF K mg 2 f_l_cell_at) :=
  have nd := sc_l_cell_at.nd
  fn_ok F sc_l_cell_at (by decide) fun cdv A outer s H E hr =>
    (ss_cons (ss_if (st_cmp op_lt so_cmp (se_v 1) (se_scLen (i := 0) (by rfl) Z.len rfl (by first | exact Or.inl rfl | exact Or.inr (Or.inl rfl) | exact Or.inr (Or.inr rfl))) (nomark _))
    (ss_one (ss_ret (se_scIx (i := 0) rfl (by first | exact Or.inl rfl | exact Or.inr (Or.inl rfl) | exact Or.inr (Or.inr rfl)) (se_v 1))))
    ss_nil)
    (ss_one (ss_ret se_int)))
theorem ok_l_stream {f : Addr} {fd : FuncData} (F : Fun K "_law_stream" "_law_stream" s_l_stream f fd) (Z : Zs mg)  : FnOk P w K mg base CX0 1 f fd ["_law_cell", "_law_salt", "_law_many"] (spF K mg 3 f_l_stream) :=
  have nd := sc_l_stream.nd
  fn_ok F sc_l_stream (by decide) fun cdv A outer s H E hr =>
    (ss_cons (ss_set (i := 3) nd rfl (.inl rfl) (se_mod (se_add (se_add (se_mod (se_v 0) se_int) (se_mul se_int (se_v 1))) se_int) se_int))
    (ss_cons (ss_set (i := 4) nd rfl (.inl rfl) (se_lst sa_nil))
    (ss_cons (ss_for PassesOwn.never rfl (si_rng1 (by rfl) Z.range (sa_cons (se_v 2) sa_nil)) (pg_name (i := 5) nd rfl (.inl rfl)) semg_nm
    (ss_cons (ss_set (i := 3) nd rfl (.inl rfl) (se_mod (se_add (se_add (se_add (se_mul (se_v 3) (se_v 3)) (se_mul se_int (se_v 3))) (se_mul se_int (se_v 5))) (se_v 1)) se_int))
    (ss_one (ss_expr (se_mut (i := 4) PySem.F.slot_list_append PySem.F.type_list_append mt_append sm_append rfl (by first | exact Or.inl rfl | exact Or.inr (Or.inl rfl) | exact Or.inr (Or.inr rfl)) (sa_cons (se_div (se_v 3) se_int) sa_nil))))))
    (ss_one (ss_ret (se_v 4))))))
theorem ok_l_entry {f : Addr} {fd : FuncData} (F : Fun K "_law_entry" "_law_entry" s_l_entry f fd) (Z : Zs mg)  : FnOk P w K mg base CX0 1 f fd ["_law_x", "_law_way"] (spF K mg 2 f_l_entry) :=
  have nd := sc_l_entry.nd
  fn_ok F sc_l_entry (by decide) fun cdv A outer s H E hr =>
    (ss_cons (ss_if (st_cmp (op_eqD hr.units) so_eq (se_v 1) se_int (nomark _))
    (ss_one (ss_ret (se_sub (se_mod (se_v 0) se_int) se_int)))
    ss_nil)
    (ss_cons (ss_if (st_cmp (op_eqD hr.units) so_eq (se_v 1) se_int (nomark _))
    (ss_one (ss_ret (se_ix (se_lst (sa_cons se_int (sa_cons se_int (sa_cons se_int (sa_cons (se_neg se_int) (sa_cons (se_sub (se_mod (se_div (se_v 0) se_int) se_int) se_int) sa_nil)))))) (se_mod (se_v 0) se_int))))
    ss_nil)
    (ss_cons (ss_if (st_cmp (op_eqD hr.units) so_eq (se_v 1) se_int (nomark _))
    (ss_one (ss_ret (se_sub (se_mod (se_v 0) se_int) se_int)))
    ss_nil)
    (ss_cons (ss_if (st_cmp (op_eqD hr.units) so_eq (se_v 1) se_int (nomark _))
    (ss_one (ss_ret (se_mul (se_sub (se_mod (se_mul (se_mul (se_mul (se_v 0) (se_v 0)) (se_v 0)) (se_v 0)) (se_pow se_int se_int)) (se_mul se_int (se_pow se_int se_int))) (se_mod (se_div (se_v 0) se_int) se_int))))
    ss_nil)
    (ss_one (ss_ret (se_mul se_int (se_sub (se_mod (se_v 0) se_int) se_int))))))))
theorem ok_l_line {f : Addr} {fd : FuncData} (F : Fun K "_law_line" "_law_line" s_l_line f fd) (Z : Zs mg) (C_l_entry : FnF P w K mg base "_law_entry" 2 1 f_l_entry) (C_l_stream : FnF P w K mg base "_law_stream" 3 1 f_l_stream) (C_l_cell_at : FnF P w K mg base "_law_cell_at" 2 1 f_l_cell_at) : FnOk P w K mg base CX0 2 f fd ["_law_script", "_law_k", "_law_long", "_law_lines_here"] (spF K mg 4 f_l_line) :=
  have nd := sc_l_line.nd
  fn_ok F sc_l_line (by decide) fun cdv A outer s H E hr =>
    (ss_cons (ss_set (i := 4) nd rfl (.inl rfl) (se_call C_l_stream (hr.mono (by decide)) (by rfl) (sa_cons (se_call C_l_cell_at (hr.mono (by decide)) (by rfl) (sa_cons (se_v 0) (sa_cons (se_add se_int (se_mod (se_v 1) se_int)) sa_nil)) (ar_cons (ar_cons ar_nil))) (sa_cons (se_v 1) (sa_cons (se_add (se_v 2) se_int) sa_nil))) (ar_cons (ar_cons (ar_cons ar_nil)))))
    (ss_cons (ss_set (i := 5) nd rfl (.inr rfl) (se_mod (se_div (se_ix (se_v 4) se_int) se_int) se_int))
    (ss_cons (ss_if (st_of (sw_and (st_cmp op_gt so_cmp (se_len Z.len (sa_cons (se_v 3) sa_nil)) se_int (nomark _)) (sw_and1 (st_cmp op_lt so_cmp (se_mod (se_ix (se_v 4) se_int) se_int) se_int (nomark _)))))
    (ss_cons (ss_set (i := 6) nd rfl (.inl rfl) (se_ix (se_v 3) (se_mod (se_ix (se_v 4) se_int) (se_len Z.len (sa_cons (se_v 3) sa_nil)))))
    (ss_cons (ss_set (i := 7) nd rfl (.inl rfl) (se_ix (se_v 3) (se_mod (se_div (se_ix (se_v 4) se_int) se_int) (se_len Z.len (sa_cons (se_v 3) sa_nil)))))
    (ss_cons (ss_set (i := 8) nd rfl (.inr rfl) (se_sub (se_mod (se_div (se_ix (se_v 4) se_int) se_int) se_int) se_int))
    (ss_cons (ss_set (i := 9) nd rfl (.inr rfl) (se_sub (se_mod (se_div (se_ix (se_v 4) se_int) se_int) se_int) se_int))
    (ss_one (ss_ret (se_ttuple Z.tuple (sa_cons (se_lcZ (own := [("_law_x", 10), ("_law_y", 11)]) rfl nd (by rfl) Z.zip (i := 6) (j := 7) rfl (by first | exact Or.inl rfl | exact Or.inr (Or.inl rfl) | exact Or.inr (Or.inr rfl)) rfl (by first | exact Or.inl rfl | exact Or.inr (Or.inl rfl) | exact Or.inr (Or.inr rfl)) (by exact blkOk_by (N := N_l_line) (sc := defScope s_l_line) (own := [("_law_x", 10), ("_law_y", 11)]) (by decide +kernel)) (semg_tp (is := [10, 11])) (by decide) (fun _ _ _ _ _ => (pg_tup rfl (pgs_cons (pg_name (i := 10) nd rfl (by first | exact .inl rfl | exact .inr rfl)) (pgs_cons (pg_name (i := 11) nd rfl (by first | exact .inl rfl | exact .inr rfl)) pgs_nil)))) (fun _ _ _ _ _ => sts_nil) (fun _ _ _ _ _ => (se_add (se_mul (se_v 8) (se_v 10)) (se_mul (se_v 9) (se_v 11))))) sa_nil))))))))
    ss_nil)
    (ss_one (ss_ret (se_ttuple Z.tuple (sa_cons (se_lc (own := [("_law_x", 10)]) rfl nd (si_val (se_slice (se_v 4) (so_some se_int) so_none)) (by exact blkOk_by (N := N_l_line) (sc := defScope s_l_line) (own := [("_law_x", 10)]) (by decide +kernel)) semg_nm (by decide) (fun _ _ _ _ _ => (pg_name (i := 10) nd rfl (by first | exact .inl rfl | exact .inr rfl))) (fun _ _ _ _ _ => sts_nil) (fun _ _ _ _ _ => (se_call C_l_entry (hr.mono (by decide)) (by rfl) (sa_cons (se_v 10) (sa_cons (se_v 5) sa_nil)) (ar_cons (ar_cons ar_nil))))) sa_nil)))))))
theorem ok_l_lines {f : Addr} {fd : FuncData} (F : Fun K "_law_lines" "_law_lines" s_l_lines f fd) (Z : Zs mg) (C_l_line : FnF P w K mg base "_law_line" 4 2 f_l_line) (C_l_cell_at : FnF P w K mg base "_law_cell_at" 2 1 f_l_cell_at) : FnOk P w K mg base CX0 3 f fd ["_law_script"] (spF K mg 1 f_l_lines) :=
  have nd := sc_l_lines.nd
  fn_ok F sc_l_lines (by decide) fun cdv A outer s H E hr =>
    (ss_cons (ss_set (i := 1) nd rfl (.inl rfl) (se_call C_l_cell_at (hr.mono (by decide)) (by rfl) (sa_cons (se_v 0) (sa_cons se_int sa_nil)) (ar_cons (ar_cons ar_nil))))
    (ss_cons (ss_set (i := 2) nd rfl (.inl rfl) (se_add se_int (se_mod (se_v 1) se_int)))
    (ss_cons (ss_set (i := 3) nd rfl (.inl rfl) (se_mod (se_div (se_v 1) se_int) se_int))
    (ss_cons (ss_if (st_cmp (op_eqD hr.units) so_eq (se_mod (se_div (se_v 1) se_int) se_int) se_int (nomark _))
    (ss_one (ss_set (i := 3) nd rfl (.inl rfl) (se_add se_int (se_mod (se_div (se_v 1) se_int) se_int))))
    ss_nil)
    (ss_cons (ss_set (i := 4) nd rfl (.inl rfl) (se_lst sa_nil))
    (ss_cons (ss_for PassesOwn.never rfl (si_rng1 (by rfl) Z.range (sa_cons (se_v 3) sa_nil)) (pg_name (i := 5) nd rfl (.inl rfl)) semg_nm
    (ss_one (ss_expr (se_mut (i := 4) PySem.F.slot_list_append PySem.F.type_list_append mt_append sm_append rfl (by first | exact Or.inl rfl | exact Or.inr (Or.inl rfl) | exact Or.inr (Or.inr rfl)) (sa_cons (se_call C_l_line (hr.mono (by decide)) (by rfl) (sa_cons (se_v 0) (sa_cons (se_v 5) (sa_cons (se_v 2) (sa_cons (se_v 4) sa_nil)))) (ar_cons (ar_cons (ar_cons (ar_cons ar_nil))))) sa_nil)))))
    (ss_one (ss_ret (se_tup (sa_cons (se_v 2) (sa_cons (se_v 4) sa_nil)))))))))))
theorem ok_l_head {f : Addr} {fd : FuncData} (F : Fun K "_law_head" "_law_head" s_l_head f fd) (Z : Zs mg)  : FnOk P w K mg base CX0 1 f fd ["_law_line_here"] (spF K mg 1 f_l_head) :=
  have nd := sc_l_head.nd
  fn_ok F sc_l_head (by decide) fun cdv A outer s H E hr =>
    (ss_cons (ss_set (i := 1) nd rfl (.inl rfl) se_non)
    (ss_cons (ss_for PassesOwn.never rfl (si_rng1 (by rfl) Z.range (sa_cons (se_len Z.len (sa_cons (se_v 0) sa_nil)) sa_nil)) (pg_name (i := 2) nd rfl (.inl rfl)) semg_nm
    (ss_one (ss_if (st_cmp (op_neD hr.units) so_ne (se_ix (se_v 0) (se_v 2)) se_int (nomark _))
    (ss_one (ss_set (i := 1) nd rfl (.inl rfl) (se_v 2)))
    ss_nil)))
    (ss_one (ss_ret (se_v 1)))))
theorem ok_l_divisor {f : Addr} {fd : FuncData} (F : Fun K "_law_divisor" "_law_divisor" s_l_divisor f fd) (Z : Zs mg)  : FnOk P w K mg base CX0 1 f fd ["_law_numbers"] (spF K mg 1 f_l_divisor) :=
  have nd := sc_l_divisor.nd
  fn_ok F sc_l_divisor (by decide) fun cdv A outer s H E hr =>
    (ss_cons (ss_set (i := 1) nd rfl (.inl rfl) se_int)
    (ss_cons (ss_forB (i := 0) PassesOwn.never rfl rfl (by first | exact Or.inl rfl | exact Or.inr (Or.inl rfl) | exact Or.inr (Or.inr rfl)) (pg_name (i := 2) nd rfl (.inl rfl)) semg_nm
    (ss_cons (ss_set (i := 3) nd rfl (.inl rfl) (se_abs Z.abs (sa_cons (se_v 2) sa_nil)))
    (ss_one (ss_while (natS 3) PassesOwn.never (st_cmp op_gt so_cmp (se_v 3) se_int (nomark _))
    (ss_cons (ss_set (i := 4) nd rfl (.inl rfl) (se_mod (se_v 1) (se_v 3)))
    (ss_cons (ss_set (i := 1) nd rfl (.inl rfl) (se_v 3))
    (ss_one (ss_set (i := 3) nd rfl (.inl rfl) (se_v 4)))))))))
    (ss_one (ss_ret (se_v 1)))))
theorem ok_l_is_settled {f : Addr} {fd : FuncData} (F : Fun K "_law_is_settled" "_law_is_settled" s_l_is_settled f fd) (Z : Zs mg) (C_l_divisor : FnF P w K mg base "_law_divisor" 1 1 f_l_divisor) (C_l_head : FnF P w K mg base "_law_head" 1 1 f_l_head) : FnOk P w K mg base CX0 2 f fd ["_law_found", "_law_long"] (spF K mg 2 f_l_is_settled) :=
  have nd := sc_l_is_settled.nd
  fn_ok F sc_l_is_settled (by decide) fun cdv A outer s H E hr =>
    (ss_cons (ss_if (st_not (st_val (se_isi (T := "list") (by decide) Z.isinstance Z.list bt_list (se_v 0))))
    (ss_one (ss_ret se_bl))
    ss_nil)
    (ss_cons (ss_forB (i := 0) PassesOwn.never rfl rfl (by first | exact Or.inl rfl | exact Or.inr (Or.inl rfl) | exact Or.inr (Or.inr rfl)) (pg_name (i := 2) nd rfl (.inl rfl)) semg_nm
    (ss_cons (ss_if (st_of (sw_or (st_not (st_val (se_isi (T := "tuple") (by decide) Z.isinstance Z.tuple bt_tuple (se_v 2)))) (sw_or1 (st_cmp (op_neD hr.units) so_ne (se_len Z.len (sa_cons (se_v 2) sa_nil)) (se_v 1) (nomark _)))))
    (ss_one (ss_ret se_bl))
    ss_nil)
    (ss_one (ss_if (st_cmp op_gt so_cmp (se_len Z.len (sa_cons (se_lcB (own := [("_law_x", 5)]) rfl nd (j := 2) rfl (by first | exact Or.inl rfl | exact Or.inr (Or.inl rfl) | exact Or.inr (Or.inr rfl)) (by exact blkOk_by (N := N_l_is_settled) (sc := defScope s_l_is_settled) (own := [("_law_x", 5)]) (by decide +kernel)) semg_nm (by decide) (fun _ _ _ _ _ => (pg_name (i := 5) nd rfl (by first | exact .inl rfl | exact .inr rfl))) (fun _ _ _ _ _ => (sts_one (st_of (sw_or (st_not (st_val (se_isi (T := "int") (by decide) Z.isinstance Z.int bt_int (se_v 5)))) (sw_or1 (st_val (se_isi (T := "bool") (by decide) Z.isinstance Z.bool bt_bool (se_v 5)))))))) (fun _ _ _ _ _ => (se_v 5))) sa_nil)) se_int (nomark _))
    (ss_one (ss_ret se_bl))
    ss_nil))))
    (ss_cons (ss_set (i := 3) nd rfl (.inr rfl) (se_lcB (own := [("_law_line_here", 2)]) rfl nd (j := 0) rfl (by first | exact Or.inl rfl | exact Or.inr (Or.inl rfl) | exact Or.inr (Or.inr rfl)) (by exact blkOk_by (N := N_l_is_settled) (sc := defScope s_l_is_settled) (own := [("_law_line_here", 2)]) (by decide +kernel)) semg_nm (by decide) (fun _ _ _ _ _ => (pg_name (i := 2) nd rfl (by first | exact .inl rfl | exact .inr rfl))) (fun _ _ _ _ _ => sts_nil) (fun _ _ _ _ _ => (se_call C_l_head (hr.mono (by decide)) (by rfl) (sa_cons (se_v 2) sa_nil) (ar_cons ar_nil)))))
    (ss_cons (ss_for PassesOwn.never rfl (si_rng1 (by rfl) Z.range (sa_cons (se_len Z.len (sa_cons (se_v 0) sa_nil)) sa_nil)) (pg_name (i := 4) nd rfl (.inr rfl)) semg_nm
    (ss_cons (ss_if (st_of (sw_or (st_cmp op_isN so_isN (se_ix (se_v 3) (se_v 4)) se_non (nomark _)) (sw_or (st_cmp op_lt so_cmp (se_ix (se_ix (se_v 0) (se_v 4)) (se_ix (se_v 3) (se_v 4))) se_int (nomark _)) (sw_or1 (st_cmp (op_neD hr.units) so_ne (se_call C_l_divisor (hr.mono (by decide)) (by rfl) (sa_cons (se_ix (se_v 0) (se_v 4)) sa_nil) (ar_cons ar_nil)) se_int (nomark _))))))
    (ss_one (ss_ret se_bl))
    ss_nil)
    (ss_cons (ss_if (st_of (sw_and (st_cmp op_gt so_cmp (se_v 4) se_int (nomark _)) (sw_and1 (st_cmp op_ge so_cmp (se_ix (se_v 3) (se_sub (se_v 4) se_int)) (se_ix (se_v 3) (se_v 4)) (nomark _)))))
    (ss_one (ss_ret se_bl))
    ss_nil)
    (ss_one (ss_if (st_cmp (op_neD hr.units) so_ne (se_len Z.len (sa_cons (se_lcB (own := [("_law_line_here", 2)]) rfl nd (j := 0) rfl (by first | exact Or.inl rfl | exact Or.inr (Or.inl rfl) | exact Or.inr (Or.inr rfl)) (by exact blkOk_by (N := N_l_is_settled) (sc := defScope s_l_is_settled) (own := [("_law_line_here", 2)]) (by decide +kernel)) semg_nm (by decide) (fun _ _ _ _ _ => (pg_name (i := 2) nd rfl (by first | exact .inl rfl | exact .inr rfl))) (fun _ _ _ _ _ => (sts_one (st_cmp (op_neD hr.units) so_ne (se_ix (se_v 2) (se_ix (se_v 3) (se_v 4))) se_int (nomark _)))) (fun _ _ _ _ _ => (se_v 2))) sa_nil)) se_int (nomark _))
    (ss_one (ss_ret se_bl))
    ss_nil)))))
    (ss_one (ss_ret se_bl))))))
theorem ok_l_makes {f : Addr} {fd : FuncData} (F : Fun K "_law_makes" "_law_makes" s_l_makes f fd) (Z : Zs mg) (C_l_head : FnF P w K mg base "_law_head" 1 1 f_l_head) : FnOk P w K mg base CX0 2 f fd ["_law_some", "_law_line_here"] (spF K mg 2 f_l_makes) :=
  have nd := sc_l_makes.nd
  fn_ok F sc_l_makes (by decide) fun cdv A outer s H E hr =>
    (ss_cons (ss_set (i := 2) nd rfl (.inl rfl) se_int)
    (ss_cons (ss_forB (i := 0) PassesOwn.never rfl rfl (by first | exact Or.inl rfl | exact Or.inr (Or.inl rfl) | exact Or.inr (Or.inr rfl)) (pg_name (i := 3) nd rfl (.inl rfl)) semg_nm
    (ss_one (ss_set (i := 2) nd rfl (.inl rfl) (se_mul (se_v 2) (se_ix (se_v 3) (se_call C_l_head (hr.mono (by decide)) (by rfl) (sa_cons (se_v 3) sa_nil) (ar_cons ar_nil)))))))
    (ss_cons (ss_for PassesOwn.never rfl (si_rng1 (by rfl) Z.range (sa_cons (se_len Z.len (sa_cons (se_v 1) sa_nil)) sa_nil)) (pg_name (i := 4) nd rfl (.inl rfl)) semg_nm
    (ss_cons (ss_set (i := 5) nd rfl (.inl rfl) se_int)
    (ss_cons (ss_forB (i := 0) PassesOwn.never rfl rfl (by first | exact Or.inl rfl | exact Or.inr (Or.inl rfl) | exact Or.inr (Or.inr rfl)) (pg_name (i := 3) nd rfl (.inl rfl)) semg_nm
    (ss_cons (ss_set (i := 6) nd rfl (.inl rfl) (se_call C_l_head (hr.mono (by decide)) (by rfl) (sa_cons (se_v 3) sa_nil) (ar_cons ar_nil)))
    (ss_cons (ss_set (i := 7) nd rfl (.inl rfl) (se_div (se_v 2) (se_ix (se_v 3) (se_v 6))))
    (ss_one (ss_set (i := 5) nd rfl (.inl rfl) (se_add (se_v 5) (se_mul (se_mul (se_ix (se_v 1) (se_v 6)) (se_v 7)) (se_ix (se_v 3) (se_v 4)))))))))
    (ss_one (ss_if (st_cmp (op_neD hr.units) so_ne (se_v 5) (se_mul (se_v 2) (se_ix (se_v 1) (se_v 4))) (nomark _))
    (ss_one (ss_ret se_bl))
    ss_nil)))))
    (ss_one (ss_ret se_bl)))))
theorem ok_l_right {f : Addr} {fd : FuncData} (F : Fun K "_law_right" "_law_right" s_l_right f fd) (Z : Zs mg) (C_made_of : FnF P w K mg base "made_of" 2 2 f_made_of) (C_l_divisor : FnF P w K mg base "_law_divisor" 1 1 f_l_divisor) (C_l_makes : FnF P w K mg base "_law_makes" 2 2 f_l_makes) : FnOk P w K mg base CX0 3 f fd ["_law_some", "_law_line_here"] (spF K mg 2 f_l_right) :=
  have nd := sc_l_right.nd
  fn_ok F sc_l_right (by decide) fun cdv A outer s H E hr =>
    (ss_cons (ss_set (i := 2) nd rfl (.inl rfl) (se_call C_made_of (hr.mono (by decide)) (by rfl) (sa_cons (se_tlist Z.list (sa_cons (se_v 0) sa_nil)) (sa_cons (se_v 1) sa_nil)) (ar_cons (ar_cons ar_nil))))
    (ss_cons (ss_if (st_not (st_val (se_call C_l_makes (hr.mono (by decide)) (by rfl) (sa_cons (se_v 0) (sa_cons (se_v 1) sa_nil)) (ar_cons (ar_cons ar_nil)))))
    (ss_one (ss_ret (se_cmp op_isN so_isN (se_v 2) se_non (nomark _))))
    ss_nil)
    (ss_cons (ss_if (st_of (sw_or (st_not (st_val (se_ttist (i := 2) Z.isinstance Z.tuple rfl (by first | exact Or.inl rfl | exact Or.inr (Or.inl rfl) | exact Or.inr (Or.inr rfl))))) (sw_or (st_cmp (op_neD hr.units) so_ne (se_ttlen (i := 2) Z.len rfl (by first | exact Or.inl rfl | exact Or.inr (Or.inl rfl) | exact Or.inr (Or.inr rfl))) se_int (nomark _)) (sw_or1 (st_not (st_val (se_ttisl (i := 2) Z.isinstance Z.list rfl (by first | exact Or.inl rfl | exact Or.inr (Or.inl rfl) | exact Or.inr (Or.inr rfl)) se_int)))))))
    (ss_one (ss_ret se_bl))
    ss_nil)
    (ss_cons (ss_ttunp (i := 2) (i1 := 3) (i2 := 4) rfl (by first | exact Or.inl rfl | exact Or.inr (Or.inl rfl) | exact Or.inr (Or.inr rfl)) (pg_tup rfl (pgs_cons (pg_name (i := 3) nd rfl (.inl rfl)) (pgs_cons (pg_name (i := 4) nd rfl (.inl rfl)) pgs_nil))))
    (ss_cons (ss_if (st_cmp op_gt so_cmp (se_len Z.len (sa_cons (se_lc (own := [("_law_x", 7)]) rfl nd (si_val (se_add (se_lst (sa_cons (se_v 3) sa_nil)) (se_v 4))) (by exact blkOk_by (N := N_l_right) (sc := defScope s_l_right) (own := [("_law_x", 7)]) (by decide +kernel)) semg_nm (by decide) (fun _ _ _ _ _ => (pg_name (i := 7) nd rfl (by first | exact .inl rfl | exact .inr rfl))) (fun _ _ _ _ _ => (sts_one (st_of (sw_or (st_not (st_val (se_isi (T := "int") (by decide) Z.isinstance Z.int bt_int (se_v 7)))) (sw_or1 (st_val (se_isi (T := "bool") (by decide) Z.isinstance Z.bool bt_bool (se_v 7)))))))) (fun _ _ _ _ _ => (se_v 7))) sa_nil)) se_int (nomark _))
    (ss_one (ss_ret se_bl))
    ss_nil)
    (ss_cons (ss_if (st_of (sw_or (st_cmp (op_neD hr.units) so_ne (se_len Z.len (sa_cons (se_v 4) sa_nil)) (se_len Z.len (sa_cons (se_v 0) sa_nil)) (nomark _)) (sw_or (st_cmp op_lt so_cmp (se_v 3) se_int (nomark _)) (sw_or1 (st_cmp (op_neD hr.units) so_ne (se_call C_l_divisor (hr.mono (by decide)) (by rfl) (sa_cons (se_add (se_lst (sa_cons (se_v 3) sa_nil)) (se_v 4)) sa_nil) (ar_cons ar_nil)) se_int (nomark _))))))
    (ss_one (ss_ret se_bl))
    ss_nil)
    (ss_cons (ss_for PassesOwn.never rfl (si_rng1 (by rfl) Z.range (sa_cons (se_len Z.len (sa_cons (se_v 1) sa_nil)) sa_nil)) (pg_name (i := 5) nd rfl (.inr rfl)) semg_nm
    (ss_one (ss_if (st_cmp (op_neD hr.units) so_ne (se_sum rfl Z.sum (sa_cons (se_lcZ (own := [("_law_many", 8), ("_law_one", 9)]) rfl nd (by rfl) Z.zip (i := 4) (j := 0) rfl (by first | exact Or.inl rfl | exact Or.inr (Or.inl rfl) | exact Or.inr (Or.inr rfl)) rfl (by first | exact Or.inl rfl | exact Or.inr (Or.inl rfl) | exact Or.inr (Or.inr rfl)) (by exact blkOk_by (N := N_l_right) (sc := defScope s_l_right) (own := [("_law_many", 8), ("_law_one", 9)]) (by decide +kernel)) (semg_tp (is := [8, 9])) (by decide) (fun _ _ _ _ _ => (pg_tup rfl (pgs_cons (pg_name (i := 8) nd rfl (by first | exact .inl rfl | exact .inr rfl)) (pgs_cons (pg_name (i := 9) nd rfl (by first | exact .inl rfl | exact .inr rfl)) pgs_nil)))) (fun _ _ _ _ _ => sts_nil) (fun _ _ _ _ _ => (se_mul (se_v 8) (se_ix (se_v 9) (se_v 5))))) sa_nil)) (se_mul (se_v 3) (se_ix (se_v 1) (se_v 5))) (nomark _))
    (ss_one (ss_ret se_bl))
    ss_nil)))
    (ss_cons (ss_set (i := 6) nd rfl (.inl rfl) (se_tlist Z.list (sa_cons (se_v 4) sa_nil)))
    (ss_cons (ss_expr (se_mut (i := 4) PySem.F.slot_list_append PySem.F.type_list_append mt_append sm_append rfl (by first | exact Or.inl rfl | exact Or.inr (Or.inl rfl) | exact Or.inr (Or.inr rfl)) (sa_cons se_int sa_nil)))
    (ss_one (ss_ret (se_cmp (op_eqD hr.units) so_eq (se_frz (se_call C_made_of (hr.mono (by decide)) (by rfl) (sa_cons (se_tlist Z.list (sa_cons (se_v 0) sa_nil)) (sa_cons (se_v 1) sa_nil)) (ar_cons (ar_cons ar_nil)))) (se_tup (sa_cons (se_v 3) (sa_cons (se_v 6) sa_nil))) (nomark _)))))))))))))
theorem ok_l_sum {f : Addr} {fd : FuncData} (F : Fun K "_law_sum" "_law_sum" s_l_sum f fd) (Z : Zs mg) (C_l_divisor : FnF P w K mg base "_law_divisor" 1 1 f_l_divisor) : FnOk P w K mg base CX0 2 f fd ["_law_some", "_law_long", "_law_xs"] (spF K mg 3 f_l_sum) :=
  have nd := sc_l_sum.nd
  fn_ok F sc_l_sum (by decide) fun cdv A outer s H E hr =>
    (ss_cons (ss_set (i := 3) nd rfl (.inl rfl) (se_ttuple Z.tuple (sa_cons (se_mul (se_lst (sa_cons se_int sa_nil)) (se_v 1)) sa_nil)))
    (ss_cons (ss_for PassesOwn.never rfl (si_rng1 (by rfl) Z.range (sa_cons (se_len Z.len (sa_cons (se_v 0) sa_nil)) sa_nil)) (pg_name (i := 4) nd rfl (.inl rfl)) semg_nm
    (ss_cons (ss_set (i := 5) nd rfl (.inr rfl) (se_ix (se_lst (sa_cons (se_sub (se_mod (se_ix (se_v 2) (se_v 4)) se_int) se_int) (sa_cons (se_sub (se_mod (se_ix (se_v 2) (se_v 4)) se_int) se_int) sa_nil))) (se_mod (se_div (se_ix (se_v 2) (se_v 4)) se_int) se_int)))
    (ss_one (ss_set (i := 3) nd rfl (.inl rfl) (se_ttuple Z.tuple (sa_cons (se_lc (own := [("_law_x", 7), ("_law_y", 8)]) rfl nd (si_zip (by rfl) Z.zip (sa_cons (se_v 3) (sa_cons (se_ix (se_v 0) (se_v 4)) sa_nil))) (by exact blkOk_by (N := N_l_sum) (sc := defScope s_l_sum) (own := [("_law_x", 7), ("_law_y", 8)]) (by decide +kernel)) (semg_tp (is := [7, 8])) (by decide) (fun _ _ _ _ _ => (pg_tup rfl (pgs_cons (pg_name (i := 7) nd rfl (by first | exact .inl rfl | exact .inr rfl)) (pgs_cons (pg_name (i := 8) nd rfl (by first | exact .inl rfl | exact .inr rfl)) pgs_nil)))) (fun _ _ _ _ _ => sts_nil) (fun _ _ _ _ _ => (se_add (se_v 7) (se_mul (se_v 5) (se_v 8))))) sa_nil))))))
    (ss_cons (ss_set (i := 6) nd rfl (.inr rfl) (se_call C_l_divisor (hr.mono (by decide)) (by rfl) (sa_cons (se_v 3) sa_nil) (ar_cons ar_nil)))
    (ss_cons (ss_if (st_of (sw_and (st_cmp op_gt so_cmp (se_v 6) se_int (nomark _)) (sw_and1 (st_cmp op_gt so_cmp (se_mod (se_ix (se_v 2) se_int) se_int) se_int (nomark _)))))
    (ss_one (ss_set (i := 3) nd rfl (.inl rfl) (se_ttuple Z.tuple (sa_cons (se_lcB (own := [("_law_x", 7)]) rfl nd (j := 3) rfl (by first | exact Or.inl rfl | exact Or.inr (Or.inl rfl) | exact Or.inr (Or.inr rfl)) (by exact blkOk_by (N := N_l_sum) (sc := defScope s_l_sum) (own := [("_law_x", 7)]) (by decide +kernel)) semg_nm (by decide) (fun _ _ _ _ _ => (pg_name (i := 7) nd rfl (by first | exact .inl rfl | exact .inr rfl))) (fun _ _ _ _ _ => sts_nil) (fun _ _ _ _ _ => (se_div (se_v 7) (se_v 6)))) sa_nil))))
    ss_nil)
    (ss_one (ss_ret (se_v 3)))))))
theorem ok_law {f : Addr} {fd : FuncData} (F : Fun K "law" "law" s_law f fd) (Z : Zs mg) (C_made_of : FnF P w K mg base "made_of" 2 2 f_made_of) (C_l_line : FnF P w K mg base "_law_line" 4 2 f_l_line) (C_l_right : FnF P w K mg base "_law_right" 2 3 f_l_right) (C_l_sum : FnF P w K mg base "_law_sum" 3 2 f_l_sum) (C_l_stream : FnF P w K mg base "_law_stream" 3 1 f_l_stream) (C_l_cell_at : FnF P w K mg base "_law_cell_at" 2 1 f_l_cell_at) (C_l_is_settled : FnF P w K mg base "_law_is_settled" 2 2 f_l_is_settled) (C_settled : FnF P w K mg base "settled" 1 5 f_settled) (C_l_lines : FnF P w K mg base "_law_lines" 1 3 f_l_lines) : FnOk P w K mg base CX0 6 f fd ["_law_script"] (spF K mg 1 f_law) :=
  have nd := sc_law.nd
  fn_ok F sc_law (by decide) fun cdv A outer s H E hr =>
    (ss_cons (ss_unp (is := [1, 2]) (se_call C_l_lines (hr.mono (by decide)) (by rfl) (sa_cons (se_v 0) sa_nil) (ar_cons ar_nil)) (pg_tup rfl (pgs_cons (pg_name (i := 1) nd rfl (.inl rfl)) (pgs_cons (pg_name (i := 2) nd rfl (.inl rfl)) pgs_nil))) (semg_tp (is := [1, 2])))
    (ss_cons (ss_set (i := 3) nd rfl (.inl rfl) (se_call C_settled (hr.mono (by decide)) (by rfl) (sa_cons (se_tlist Z.list (sa_cons (se_v 2) sa_nil)) sa_nil) (ar_cons ar_nil)))
    (ss_cons (ss_if (st_not (st_val (se_call C_l_is_settled (hr.mono (by decide)) (by rfl) (sa_cons (se_v 3) (sa_cons (se_v 1) sa_nil)) (ar_cons (ar_cons ar_nil)))))
    (ss_one (ss_ret se_bl))
    ss_nil)
    (ss_cons (ss_for PassesOwn.never rfl (si_rng1 (by rfl) Z.range (sa_cons se_int sa_nil)) (pg_name (i := 4) nd rfl (.inl rfl)) semg_nm
    (ss_cons (ss_set (i := 5) nd rfl (.inl rfl) (se_call C_l_stream (hr.mono (by decide)) (by rfl) (sa_cons (se_call C_l_cell_at (hr.mono (by decide)) (by rfl) (sa_cons (se_v 0) (sa_cons (se_add se_int (se_v 4)) sa_nil)) (ar_cons (ar_cons ar_nil))) (sa_cons (se_add se_int (se_v 4)) (sa_cons se_int sa_nil))) (ar_cons (ar_cons (ar_cons ar_nil)))))
    (ss_cons (ss_set (i := 6) nd rfl (.inl rfl) (se_call C_l_sum (hr.mono (by decide)) (by rfl) (sa_cons (se_v 3) (sa_cons (se_v 1) (sa_cons (se_v 5) sa_nil))) (ar_cons (ar_cons (ar_cons ar_nil)))))
    (ss_cons (ss_set (i := 7) nd rfl (.inl rfl) (se_mod (se_ix (se_v 5) se_int) (se_v 1)))
    (ss_cons (ss_set (i := 8) nd rfl (.inl rfl) (se_add (se_add (se_slice (se_v 6) so_none (so_some (se_v 7))) (se_tup (sa_cons (se_add (se_add (se_ix (se_v 6) (se_v 7)) se_int) (se_mod (se_div (se_ix (se_v 5) se_int) se_int) se_int)) sa_nil))) (se_slice (se_v 6) (so_some (se_add (se_v 7) se_int)) so_none)))
    (ss_one (ss_if (st_of (sw_or (st_not (st_val (se_call C_l_right (hr.mono (by decide)) (by rfl) (sa_cons (se_v 3) (sa_cons (se_v 6) sa_nil)) (ar_cons (ar_cons ar_nil))))) (sw_or1 (st_not (st_val (se_call C_l_right (hr.mono (by decide)) (by rfl) (sa_cons (se_v 3) (sa_cons (se_v 8) sa_nil)) (ar_cons (ar_cons ar_nil))))))))
    (ss_one (ss_ret se_bl))
    ss_nil)))))))
    (ss_cons (ss_for PassesOwn.never rfl (si_val (se_add (se_slice (se_v 2) so_none (so_some se_int)) (se_lst (sa_cons (se_ttuple Z.tuple (sa_cons (se_mul (se_lst (sa_cons se_int sa_nil)) (se_v 1)) sa_nil)) (sa_cons (se_call C_l_line (hr.mono (by decide)) (by rfl) (sa_cons (se_v 0) (sa_cons se_int (sa_cons (se_v 1) (sa_cons (se_lst sa_nil) sa_nil)))) (ar_cons (ar_cons (ar_cons (ar_cons ar_nil))))) sa_nil))))) (pg_name (i := 6) nd rfl (.inl rfl)) semg_nm
    (ss_one (ss_if (st_not (st_val (se_call C_l_right (hr.mono (by decide)) (by rfl) (sa_cons (se_v 3) (sa_cons (se_v 6) sa_nil)) (ar_cons (ar_cons ar_nil)))))
    (ss_one (ss_ret se_bl))
    ss_nil)))
    (ss_one (ss_ret (se_and (se_cmp (op_eqD hr.units) so_eq (se_frz (se_call C_made_of (hr.mono (by decide)) (by rfl) (sa_cons (se_lst sa_nil) (sa_cons (se_ttuple Z.tuple (sa_cons (se_mul (se_lst (sa_cons se_int sa_nil)) (se_v 1)) sa_nil)) sa_nil)) (ar_cons (ar_cons ar_nil)))) (se_tup (sa_cons se_int (sa_cons (se_lst sa_nil) sa_nil))) (nomark _)) (se_one (se_cmp op_isN so_isN (se_frz (se_call C_made_of (hr.mono (by decide)) (by rfl) (sa_cons (se_lst sa_nil) (sa_cons (se_ttuple Z.tuple (sa_cons (se_add (se_mul (se_lst (sa_cons se_int sa_nil)) (se_sub (se_v 1) se_int)) (se_lst (sa_cons se_int sa_nil))) sa_nil)) sa_nil)) (ar_cons (ar_cons ar_nil)))) se_non (nomark _)))))))))))
end

theorem all_mk {l : PySem.W.OpenLaw} {w : World} {K : PySem.W.Frag} {h : Heap} {mg : Str → Option Value} {fa : Addr} {f0 f1 f2 f3 f4 f5 f6 f7 f8 f9 f10 f11 f12 f13 f14 f15 f16 f17 f18 : Addr} {od0 an0 od1 an1 od2 an2 od3 an3 od4 an4 od5 an5 od6 an6 od7 an7 od8 an8 od9 an9 od10 an10 od11 an11 od12 an12 od13 an13 od14 an14 od15 an15 od16 an16 od17 an17 od18 an18 : Option Addr} {sl0 sl1 sl2 sl3 sl4 sl5 sl6 sl7 sl8 sl9 sl10 sl11 sl12 sl13 sl14 sl15 sl16 sl17 sl18 : Array (Option Value)} {oc0 kV0 dc0 pm0 cd0 ct0 oc1 kV1 dc1 pm1 cd1 ct1 oc2 kV2 dc2 pm2 cd2 ct2 oc3 kV3 dc3 pm3 cd3 ct3 oc4 kV4 dc4 pm4 cd4 ct4 oc5 kV5 dc5 pm5 cd5 ct5 oc6 kV6 dc6 pm6 cd6 ct6 oc7 kV7 dc7 pm7 cd7 ct7 oc8 kV8 dc8 pm8 cd8 ct8 oc9 kV9 dc9 pm9 cd9 ct9 oc10 kV10 dc10 pm10 cd10 ct10 oc11 kV11 dc11 pm11 cd11 ct11 oc12 kV12 dc12 pm12 cd12 ct12 oc13 kV13 dc13 pm13 cd13 ct13 oc14 kV14 dc14 pm14 cd14 ct14 oc15 kV15 dc15 pm15 cd15 ct15 oc16 kV16 dc16 pm16 cd16 ct16 oc17 kV17 dc17 pm17 cd17 ct17 oc18 kV18 dc18 pm18 cd18 ct18 : Value} (X : K.In h) (G : h.Ns mainGlobals mg) (hfa : mg "law" = some (.ref fa))
    (a0 : PySem.W.nsIn K mainGlobals "greatest_divisor" = some (some (.ref f0))) (l0 : K.lookup f0 = some ⟨oc0, od0, .func (PySem.W.fnOf "greatest_divisor" "greatest_divisor" (defArgs s_greatest_divisor) (defBody s_greatest_divisor) (defScope s_greatest_divisor) .none kV0 dc0 pm0 an0 cd0 ct0), sl0⟩) (c0 : PySem.W.codeIn K cd0 "greatest_divisor" = true) (k0 : PySem.W.keepIn K (.ref f0) = true)
    (a1 : PySem.W.nsIn K mainGlobals "head" = some (some (.ref f1))) (l1 : K.lookup f1 = some ⟨oc1, od1, .func (PySem.W.fnOf "head" "head" (defArgs s_head) (defBody s_head) (defScope s_head) .none kV1 dc1 pm1 an1 cd1 ct1), sl1⟩) (c1 : PySem.W.codeIn K cd1 "head" = true) (k1 : PySem.W.keepIn K (.ref f1) = true)
    (a2 : PySem.W.nsIn K mainGlobals "primitive" = some (some (.ref f2))) (l2 : K.lookup f2 = some ⟨oc2, od2, .func (PySem.W.fnOf "primitive" "primitive" (defArgs s_primitive) (defBody s_primitive) (defScope s_primitive) .none kV2 dc2 pm2 an2 cd2 ct2), sl2⟩) (c2 : PySem.W.codeIn K cd2 "primitive" = true) (k2 : PySem.W.keepIn K (.ref f2) = true)
    (a3 : PySem.W.nsIn K mainGlobals "cleared" = some (some (.ref f3))) (l3 : K.lookup f3 = some ⟨oc3, od3, .func (PySem.W.fnOf "cleared" "cleared" (defArgs s_cleared) (defBody s_cleared) (defScope s_cleared) .none kV3 dc3 pm3 an3 cd3 ct3), sl3⟩) (c3 : PySem.W.codeIn K cd3 "cleared" = true) (k3 : PySem.W.keepIn K (.ref f3) = true)
    (a4 : PySem.W.nsIn K mainGlobals "put_in" = some (some (.ref f4))) (l4 : K.lookup f4 = some ⟨oc4, od4, .func (PySem.W.fnOf "put_in" "put_in" (defArgs s_put_in) (defBody s_put_in) (defScope s_put_in) .none kV4 dc4 pm4 an4 cd4 ct4), sl4⟩) (c4 : PySem.W.codeIn K cd4 "put_in" = true) (k4 : PySem.W.keepIn K (.ref f4) = true)
    (a5 : PySem.W.nsIn K mainGlobals "settled" = some (some (.ref f5))) (l5 : K.lookup f5 = some ⟨oc5, od5, .func (PySem.W.fnOf "settled" "settled" (defArgs s_settled) (defBody s_settled) (defScope s_settled) .none kV5 dc5 pm5 an5 cd5 ct5), sl5⟩) (c5 : PySem.W.codeIn K cd5 "settled" = true) (k5 : PySem.W.keepIn K (.ref f5) = true)
    (a6 : PySem.W.nsIn K mainGlobals "made_of" = some (some (.ref f6))) (l6 : K.lookup f6 = some ⟨oc6, od6, .func (PySem.W.fnOf "made_of" "made_of" (defArgs s_made_of) (defBody s_made_of) (defScope s_made_of) .none kV6 dc6 pm6 an6 cd6 ct6), sl6⟩) (c6 : PySem.W.codeIn K cd6 "made_of" = true) (k6 : PySem.W.keepIn K (.ref f6) = true)
    (a7 : PySem.W.nsIn K mainGlobals "_law_cell_at" = some (some (.ref f7))) (l7 : K.lookup f7 = some ⟨oc7, od7, .func (PySem.W.fnOf "_law_cell_at" "_law_cell_at" (defArgs s_l_cell_at) (defBody s_l_cell_at) (defScope s_l_cell_at) .none kV7 dc7 pm7 an7 cd7 ct7), sl7⟩) (c7 : PySem.W.codeIn K cd7 "_law_cell_at" = true) (k7 : PySem.W.keepIn K (.ref f7) = true)
    (a8 : PySem.W.nsIn K mainGlobals "_law_stream" = some (some (.ref f8))) (l8 : K.lookup f8 = some ⟨oc8, od8, .func (PySem.W.fnOf "_law_stream" "_law_stream" (defArgs s_l_stream) (defBody s_l_stream) (defScope s_l_stream) .none kV8 dc8 pm8 an8 cd8 ct8), sl8⟩) (c8 : PySem.W.codeIn K cd8 "_law_stream" = true) (k8 : PySem.W.keepIn K (.ref f8) = true)
    (a9 : PySem.W.nsIn K mainGlobals "_law_entry" = some (some (.ref f9))) (l9 : K.lookup f9 = some ⟨oc9, od9, .func (PySem.W.fnOf "_law_entry" "_law_entry" (defArgs s_l_entry) (defBody s_l_entry) (defScope s_l_entry) .none kV9 dc9 pm9 an9 cd9 ct9), sl9⟩) (c9 : PySem.W.codeIn K cd9 "_law_entry" = true) (k9 : PySem.W.keepIn K (.ref f9) = true)
    (a10 : PySem.W.nsIn K mainGlobals "_law_line" = some (some (.ref f10))) (l10 : K.lookup f10 = some ⟨oc10, od10, .func (PySem.W.fnOf "_law_line" "_law_line" (defArgs s_l_line) (defBody s_l_line) (defScope s_l_line) .none kV10 dc10 pm10 an10 cd10 ct10), sl10⟩) (c10 : PySem.W.codeIn K cd10 "_law_line" = true) (k10 : PySem.W.keepIn K (.ref f10) = true)
    (a11 : PySem.W.nsIn K mainGlobals "_law_lines" = some (some (.ref f11))) (l11 : K.lookup f11 = some ⟨oc11, od11, .func (PySem.W.fnOf "_law_lines" "_law_lines" (defArgs s_l_lines) (defBody s_l_lines) (defScope s_l_lines) .none kV11 dc11 pm11 an11 cd11 ct11), sl11⟩) (c11 : PySem.W.codeIn K cd11 "_law_lines" = true) (k11 : PySem.W.keepIn K (.ref f11) = true)
    (a12 : PySem.W.nsIn K mainGlobals "_law_head" = some (some (.ref f12))) (l12 : K.lookup f12 = some ⟨oc12, od12, .func (PySem.W.fnOf "_law_head" "_law_head" (defArgs s_l_head) (defBody s_l_head) (defScope s_l_head) .none kV12 dc12 pm12 an12 cd12 ct12), sl12⟩) (c12 : PySem.W.codeIn K cd12 "_law_head" = true) (k12 : PySem.W.keepIn K (.ref f12) = true)
    (a13 : PySem.W.nsIn K mainGlobals "_law_divisor" = some (some (.ref f13))) (l13 : K.lookup f13 = some ⟨oc13, od13, .func (PySem.W.fnOf "_law_divisor" "_law_divisor" (defArgs s_l_divisor) (defBody s_l_divisor) (defScope s_l_divisor) .none kV13 dc13 pm13 an13 cd13 ct13), sl13⟩) (c13 : PySem.W.codeIn K cd13 "_law_divisor" = true) (k13 : PySem.W.keepIn K (.ref f13) = true)
    (a14 : PySem.W.nsIn K mainGlobals "_law_is_settled" = some (some (.ref f14))) (l14 : K.lookup f14 = some ⟨oc14, od14, .func (PySem.W.fnOf "_law_is_settled" "_law_is_settled" (defArgs s_l_is_settled) (defBody s_l_is_settled) (defScope s_l_is_settled) .none kV14 dc14 pm14 an14 cd14 ct14), sl14⟩) (c14 : PySem.W.codeIn K cd14 "_law_is_settled" = true) (k14 : PySem.W.keepIn K (.ref f14) = true)
    (a15 : PySem.W.nsIn K mainGlobals "_law_makes" = some (some (.ref f15))) (l15 : K.lookup f15 = some ⟨oc15, od15, .func (PySem.W.fnOf "_law_makes" "_law_makes" (defArgs s_l_makes) (defBody s_l_makes) (defScope s_l_makes) .none kV15 dc15 pm15 an15 cd15 ct15), sl15⟩) (c15 : PySem.W.codeIn K cd15 "_law_makes" = true) (k15 : PySem.W.keepIn K (.ref f15) = true)
    (a16 : PySem.W.nsIn K mainGlobals "_law_right" = some (some (.ref f16))) (l16 : K.lookup f16 = some ⟨oc16, od16, .func (PySem.W.fnOf "_law_right" "_law_right" (defArgs s_l_right) (defBody s_l_right) (defScope s_l_right) .none kV16 dc16 pm16 an16 cd16 ct16), sl16⟩) (c16 : PySem.W.codeIn K cd16 "_law_right" = true) (k16 : PySem.W.keepIn K (.ref f16) = true)
    (a17 : PySem.W.nsIn K mainGlobals "_law_sum" = some (some (.ref f17))) (l17 : K.lookup f17 = some ⟨oc17, od17, .func (PySem.W.fnOf "_law_sum" "_law_sum" (defArgs s_l_sum) (defBody s_l_sum) (defScope s_l_sum) .none kV17 dc17 pm17 an17 cd17 ct17), sl17⟩) (c17 : PySem.W.codeIn K cd17 "_law_sum" = true) (k17 : PySem.W.keepIn K (.ref f17) = true)
    (a18 : PySem.W.nsIn K mainGlobals "law" = some (some (.ref f18))) (l18 : K.lookup f18 = some ⟨oc18, od18, .func (PySem.W.fnOf "law" "law" (defArgs s_law) (defBody s_law) (defScope s_law) .none kV18 dc18 pm18 an18 cd18 ct18), sl18⟩) (c18 : PySem.W.codeIn K cd18 "law" = true) (k18 : PySem.W.keepIn K (.ref f18) = true)
    (z0 : PySem.W.nsIn K mainGlobals "abs" = some none)
    (z1 : PySem.W.nsIn K mainGlobals "range" = some none)
    (z2 : PySem.W.nsIn K mainGlobals "len" = some none)
    (z3 : PySem.W.nsIn K mainGlobals "tuple" = some none)
    (z4 : PySem.W.nsIn K mainGlobals "zip" = some none)
    (z5 : PySem.W.nsIn K mainGlobals "sorted" = some none)
    (z6 : PySem.W.nsIn K mainGlobals "list" = some none)
    (z7 : PySem.W.nsIn K mainGlobals "sum" = some none)
    (z8 : PySem.W.nsIn K mainGlobals "isinstance" = some none)
    (z9 : PySem.W.nsIn K mainGlobals "bool" = some none)
    (z10 : PySem.W.nsIn K mainGlobals "int" = some none) :
    ∃ fd : FuncData, (∀ (s : Shared) (v : Value), BindsTo s fd ⟨[v], []⟩ [("_law_script", v)]) ∧ ∀ base : Heap, K.In base → base.Ns mainGlobals mg → FnOk l.prog w K mg base CX0 6 fa fd ["_law_script"] (spLaw K) := by
  have e := hfa.symm.trans (PySem.W.mg_of X G a18)
  cases e
  have Z : Zs mg := ⟨PySem.W.mg_none_of X G z0, PySem.W.mg_none_of X G z1, PySem.W.mg_none_of X G z2, PySem.W.mg_none_of X G z3, PySem.W.mg_none_of X G z4, PySem.W.mg_none_of X G z5, PySem.W.mg_none_of X G z6, PySem.W.mg_none_of X G z7, PySem.W.mg_none_of X G z8, PySem.W.mg_none_of X G z9, PySem.W.mg_none_of X G z10⟩
  have F0 := fun_mk (st := s_greatest_divisor) l0 c0 k0
  have b0 := F0.binds (ps := ["one", "other"]) fun _ _ _ _ _ _ us hl => match us, hl with | [_, _], _ => rfl
  have F1 := fun_mk (st := s_head) l1 c1 k1
  have b1 := F1.binds (ps := ["line"]) fun _ _ _ _ _ _ us hl => match us, hl with | [_], _ => rfl
  have F2 := fun_mk (st := s_primitive) l2 c2 k2
  have b2 := F2.binds (ps := ["line"]) fun _ _ _ _ _ _ us hl => match us, hl with | [_], _ => rfl
  have F3 := fun_mk (st := s_cleared) l3 c3 k3
  have b3 := F3.binds (ps := ["line", "other", "place"]) fun _ _ _ _ _ _ us hl => match us, hl with | [_, _, _], _ => rfl
  have F4 := fun_mk (st := s_put_in) l4 c4 k4
  have b4 := F4.binds (ps := ["by_head", "line"]) fun _ _ _ _ _ _ us hl => match us, hl with | [_, _], _ => rfl
  have F5 := fun_mk (st := s_settled) l5 c5 k5
  have b5 := F5.binds (ps := ["lines"]) fun _ _ _ _ _ _ us hl => match us, hl with | [_], _ => rfl
  have F6 := fun_mk (st := s_made_of) l6 c6 k6
  have b6 := F6.binds (ps := ["lines", "line"]) fun _ _ _ _ _ _ us hl => match us, hl with | [_, _], _ => rfl
  have F7 := fun_mk (st := s_l_cell_at) l7 c7 k7
  have b7 := F7.binds (ps := ["_law_script", "_law_k"]) fun _ _ _ _ _ _ us hl => match us, hl with | [_, _], _ => rfl
  have F8 := fun_mk (st := s_l_stream) l8 c8 k8
  have b8 := F8.binds (ps := ["_law_cell", "_law_salt", "_law_many"]) fun _ _ _ _ _ _ us hl => match us, hl with | [_, _, _], _ => rfl
  have F9 := fun_mk (st := s_l_entry) l9 c9 k9
  have b9 := F9.binds (ps := ["_law_x", "_law_way"]) fun _ _ _ _ _ _ us hl => match us, hl with | [_, _], _ => rfl
  have F10 := fun_mk (st := s_l_line) l10 c10 k10
  have b10 := F10.binds (ps := ["_law_script", "_law_k", "_law_long", "_law_lines_here"]) fun _ _ _ _ _ _ us hl => match us, hl with | [_, _, _, _], _ => rfl
  have F11 := fun_mk (st := s_l_lines) l11 c11 k11
  have b11 := F11.binds (ps := ["_law_script"]) fun _ _ _ _ _ _ us hl => match us, hl with | [_], _ => rfl
  have F12 := fun_mk (st := s_l_head) l12 c12 k12
  have b12 := F12.binds (ps := ["_law_line_here"]) fun _ _ _ _ _ _ us hl => match us, hl with | [_], _ => rfl
  have F13 := fun_mk (st := s_l_divisor) l13 c13 k13
  have b13 := F13.binds (ps := ["_law_numbers"]) fun _ _ _ _ _ _ us hl => match us, hl with | [_], _ => rfl
  have F14 := fun_mk (st := s_l_is_settled) l14 c14 k14
  have b14 := F14.binds (ps := ["_law_found", "_law_long"]) fun _ _ _ _ _ _ us hl => match us, hl with | [_, _], _ => rfl
  have F15 := fun_mk (st := s_l_makes) l15 c15 k15
  have b15 := F15.binds (ps := ["_law_some", "_law_line_here"]) fun _ _ _ _ _ _ us hl => match us, hl with | [_, _], _ => rfl
  have F16 := fun_mk (st := s_l_right) l16 c16 k16
  have b16 := F16.binds (ps := ["_law_some", "_law_line_here"]) fun _ _ _ _ _ _ us hl => match us, hl with | [_, _], _ => rfl
  have F17 := fun_mk (st := s_l_sum) l17 c17 k17
  have b17 := F17.binds (ps := ["_law_some", "_law_long", "_law_xs"]) fun _ _ _ _ _ _ us hl => match us, hl with | [_, _, _], _ => rfl
  have F18 := fun_mk (st := s_law) l18 c18 k18
  refine ⟨PySem.W.fnOf "law" "law" (defArgs s_law) (defBody s_law) (defScope s_law) .none kV18 dc18 pm18 an18 cd18 ct18, fun s v => .of_eq rfl, fun base _ _ => ?_⟩
  have C_greatest_divisor : FnF l.prog w K mg base "greatest_divisor" 2 1 f_greatest_divisor := fnF_mk F0 (PySem.W.mg_of X G a0) b0 (ok_greatest_divisor F0 Z )
  have C_head : FnF l.prog w K mg base "head" 1 1 f_head := fnF_mk F1 (PySem.W.mg_of X G a1) b1 (ok_head F1 Z )
  have C_primitive : FnF l.prog w K mg base "primitive" 1 2 f_primitive := fnF_mk F2 (PySem.W.mg_of X G a2) b2 (ok_primitive F2 Z C_head C_greatest_divisor)
  have C_cleared : FnF l.prog w K mg base "cleared" 3 3 f_cleared := fnF_mk F3 (PySem.W.mg_of X G a3) b3 (ok_cleared F3 Z C_primitive)
  have C_put_in : FnF l.prog w K mg base "put_in" 2 4 f_put_in := fnF_mk F4 (PySem.W.mg_of X G a4) b4 (ok_put_in F4 Z C_head C_cleared C_primitive)
  have C_settled : FnF l.prog w K mg base "settled" 1 5 f_settled := fnF_mk F5 (PySem.W.mg_of X G a5) b5 (ok_settled F5 Z C_cleared C_head C_put_in)
  have C_made_of : FnF l.prog w K mg base "made_of" 2 2 f_made_of := fnF_mk F6 (PySem.W.mg_of X G a6) b6 (ok_made_of F6 Z C_head C_greatest_divisor)
  have C_l_cell_at : FnF l.prog w K mg base "_law_cell_at" 2 1 f_l_cell_at := fnF_mk F7 (PySem.W.mg_of X G a7) b7 (ok_l_cell_at F7 Z )
  have C_l_stream : FnF l.prog w K mg base "_law_stream" 3 1 f_l_stream := fnF_mk F8 (PySem.W.mg_of X G a8) b8 (ok_l_stream F8 Z )
  have C_l_entry : FnF l.prog w K mg base "_law_entry" 2 1 f_l_entry := fnF_mk F9 (PySem.W.mg_of X G a9) b9 (ok_l_entry F9 Z )
  have C_l_line : FnF l.prog w K mg base "_law_line" 4 2 f_l_line := fnF_mk F10 (PySem.W.mg_of X G a10) b10 (ok_l_line F10 Z C_l_entry C_l_stream C_l_cell_at)
  have C_l_lines : FnF l.prog w K mg base "_law_lines" 1 3 f_l_lines := fnF_mk F11 (PySem.W.mg_of X G a11) b11 (ok_l_lines F11 Z C_l_line C_l_cell_at)
  have C_l_head : FnF l.prog w K mg base "_law_head" 1 1 f_l_head := fnF_mk F12 (PySem.W.mg_of X G a12) b12 (ok_l_head F12 Z )
  have C_l_divisor : FnF l.prog w K mg base "_law_divisor" 1 1 f_l_divisor := fnF_mk F13 (PySem.W.mg_of X G a13) b13 (ok_l_divisor F13 Z )
  have C_l_is_settled : FnF l.prog w K mg base "_law_is_settled" 2 2 f_l_is_settled := fnF_mk F14 (PySem.W.mg_of X G a14) b14 (ok_l_is_settled F14 Z C_l_divisor C_l_head)
  have C_l_makes : FnF l.prog w K mg base "_law_makes" 2 2 f_l_makes := fnF_mk F15 (PySem.W.mg_of X G a15) b15 (ok_l_makes F15 Z C_l_head)
  have C_l_right : FnF l.prog w K mg base "_law_right" 2 3 f_l_right := fnF_mk F16 (PySem.W.mg_of X G a16) b16 (ok_l_right F16 Z C_made_of C_l_divisor C_l_makes)
  have C_l_sum : FnF l.prog w K mg base "_law_sum" 3 2 f_l_sum := fnF_mk F17 (PySem.W.mg_of X G a17) b17 (ok_l_sum F17 Z C_l_divisor)
  exact law_imp (ok_law F18 Z C_made_of C_l_line C_l_right C_l_sum C_l_stream C_l_cell_at C_l_is_settled C_settled C_l_lines) law_true

end EN
open PySem PySem.W PyProof.Rows
set_option maxRecDepth 100000 in
set_option maxHeartbeats 0 in
theorem PySem.Challenge.cw_evennotes_k04_what_is_made_holds : PySem.Challenge.rw_evennotes_k04_what_is_made.Holds := by
  w_on; o_law; k_head; (case hw => w_witness2)
  k_fill
  refine L2.walk_of (l := PySem.Challenge.rw_evennotes_k04_what_is_made) (n := 63) (k := 6) (x := "_law_script") (CX := fun _ => L2.CX0) (sp := fun w => FL.spLaw _) rfl (by decide) rfl ⟨rfl, by decide, by decide⟩ (fun w h Y => PySem.W.kIn_of Y) ?F (fun _ _ a ns hl _ hS => ⟨a, ns, rfl, hS, hl, fun _ => rfl⟩) (fun _ _ _ _ _ h => h)
  case F =>
    intro w mg fa h KX G hmg
    refine' EN.all_mk KX G hmg ?a0 ?l0 ?c0 ?k0 ?a1 ?l1 ?c1 ?k1 ?a2 ?l2 ?c2 ?k2 ?a3 ?l3 ?c3 ?k3 ?a4 ?l4 ?c4 ?k4 ?a5 ?l5 ?c5 ?k5 ?a6 ?l6 ?c6 ?k6 ?a7 ?l7 ?c7 ?k7 ?a8 ?l8 ?c8 ?k8 ?a9 ?l9 ?c9 ?k9 ?a10 ?l10 ?c10 ?k10 ?a11 ?l11 ?c11 ?k11 ?a12 ?l12 ?c12 ?k12 ?a13 ?l13 ?c13 ?k13 ?a14 ?l14 ?c14 ?k14 ?a15 ?l15 ?c15 ?k15 ?a16 ?l16 ?c16 ?k16 ?a17 ?l17 ?c17 ?k17 ?a18 ?l18 ?c18 ?k18 ?z0 ?z1 ?z2 ?z3 ?z4 ?z5 ?z6 ?z7 ?z8 ?z9 ?z10
    (case a0 => k_is)
    (case l0 => k_is)
    (case c0 => k_is)
    (case k0 => k_is)
    (case a1 => k_is)
    (case l1 => k_is)
    (case c1 => k_is)
    (case k1 => k_is)
    (case a2 => k_is)
    (case l2 => k_is)
    (case c2 => k_is)
    (case k2 => k_is)
    (case a3 => k_is)
    (case l3 => k_is)
    (case c3 => k_is)
    (case k3 => k_is)
    (case a4 => k_is)
    (case l4 => k_is)
    (case c4 => k_is)
    (case k4 => k_is)
    (case a5 => k_is)
    (case l5 => k_is)
    (case c5 => k_is)
    (case k5 => k_is)
    (case a6 => k_is)
    (case l6 => k_is)
    (case c6 => k_is)
    (case k6 => k_is)
    (case a7 => k_is)
    (case l7 => k_is)
    (case c7 => k_is)
    (case k7 => k_is)
    (case a8 => k_is)
    (case l8 => k_is)
    (case c8 => k_is)
    (case k8 => k_is)
    (case a9 => k_is)
    (case l9 => k_is)
    (case c9 => k_is)
    (case k9 => k_is)
    (case a10 => k_is)
    (case l10 => k_is)
    (case c10 => k_is)
    (case k10 => k_is)
    (case a11 => k_is)
    (case l11 => k_is)
    (case c11 => k_is)
    (case k11 => k_is)
    (case a12 => k_is)
    (case l12 => k_is)
    (case c12 => k_is)
    (case k12 => k_is)
    (case a13 => k_is)
    (case l13 => k_is)
    (case c13 => k_is)
    (case k13 => k_is)
    (case a14 => k_is)
    (case l14 => k_is)
    (case c14 => k_is)
    (case k14 => k_is)
    (case a15 => k_is)
    (case l15 => k_is)
    (case c15 => k_is)
    (case k15 => k_is)
    (case a16 => k_is)
    (case l16 => k_is)
    (case c16 => k_is)
    (case k16 => k_is)
    (case a17 => k_is)
    (case l17 => k_is)
    (case c17 => k_is)
    (case k17 => k_is)
    (case a18 => k_is)
    (case l18 => k_is)
    (case c18 => k_is)
    (case k18 => k_is)
    (case z0 => k_is)
    (case z1 => k_is)
    (case z2 => k_is)
    (case z3 => k_is)
    (case z4 => k_is)
    (case z5 => k_is)
    (case z6 => k_is)
    (case z7 => k_is)
    (case z8 => k_is)
    (case z9 => k_is)
    (case z10 => k_is)
#print axioms PySem.Challenge.cw_evennotes_k04_what_is_made_holds

