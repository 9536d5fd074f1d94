import PyProof.Rows.All
import Wide.All
import OpenK.AllK
import Wide.FinOn
import HandS.ForMost
import HandS.Wide
import HandS.IsInst
import HandS.TupAny
import HandS.TupMul
import HandS.SortInts
import HandS.Zip
import HandS.NoneIn
import KE.GoesEnum
import HandS.Rev
import PySem.Challenge.RW_evennotes_k11_whole_sums_told
set_option Elab.async false
set_option linter.all false
set_option maxRecDepth 100000
set_option maxHeartbeats 4000000
/-! FL1: what a slot holds, and how the heap bears it -/
namespace FL
open PySem PySem.Spec PyProof.Rows L2

abbrev D := PyData

/-- what a slot holds: nothing, data that stands still, a list or a dict that this slot alone holds, an instance, a look at another slot -/
inductive Sl where
  | no
  | sh (d : D)
  | ol (ds : List D)
  | od (kvs : List (Key × D))
  | oi (c : Str) (fs : List (Str × Sl))
  | vw (i : Nat)
  | sc (ns : List Int)

abbrev Lo := List Sl

/-- an outcome -/
inductive Res (α : Type) where
  | bad
  | ok (a : α)
  | ex (c : Str) (p : D)
namespace Res
def bind {α β : Type} : Res α → (α → Res β) → Res β
  | .bad, _ => .bad
  | .ok a, f => f a
  | .ex c p, _ => .ex c p
instance : Monad Res where
  pure := .ok
  bind := Res.bind
theorem bind_ok {α β : Type} {x : Res α} {f : α → Res β} {b : β} (h : (x >>= f) = .ok b) : ∃ a, x = .ok a ∧ f a = .ok b := by
  cases x with
  | bad => cases h
  | ok a => exact ⟨a, rfl, h⟩
  | ex c p => cases h
@[simp] theorem ok_bind {α β : Type} (a : α) (f : α → Res β) : ((Res.ok a) >>= f) = f a := rfl
@[simp] theorem bad_bind {α β : Type} (f : α → Res β) : ((Res.bad : Res α) >>= f) = .bad := rfl
@[simp] theorem ex_bind {α β : Type} (c : Str) (p : D) (f : α → Res β) : ((Res.ex c p : Res α) >>= f) = .ex c p := rfl
@[simp] theorem pure_eq {α : Type} (a : α) : (pure a : Res α) = .ok a := rfl
def ofO {α : Type} : Option α → Res α
  | some a => .ok a
  | none => .bad
@[simp] theorem ofO_some {α : Type} (a : α) : ofO (some a) = .ok a := rfl
@[simp] theorem ofO_none {α : Type} : ofO (none : Option α) = .bad := rfl
theorem ofO_ok {α : Type} {o : Option α} {a : α} (h : ofO o = .ok a) : o = some a := by
  cases o with
  | none => cases h
  | some b => cases h; rfl
end Res

mutual
inductive Dt (K : PySem.W.Frag) (H : Hp) : V → PyData → Prop
  | non : Dt K H .non .none
  | bl (b : Bool) : Dt K H (.bl b) (.bool b)
  | int (i : Int) : Dt K H (.int i) (.int i)
  | str (x : Str) : Dt K H (.str x) (.str x)
  | lst {a : Addr} {xs : List V} {ds : List PyData} : H a = some (.lst xs) → DtAll K H xs ds → Dt K H (.ref a) (.list ds)
  | tup {a : Addr} {xs : List V} {ds : List PyData} : SqT K H a xs → DtAll K H xs ds → Dt K H (.ref a) (.tuple ds)
inductive DtAll (K : PySem.W.Frag) (H : Hp) : List V → List PyData → Prop
  | nil : DtAll K H [] []
  | cons {v : V} {vs : List V} {d : PyData} {ds : List PyData} : Dt K H v d → DtAll K H vs ds → DtAll K H (v :: vs) (d :: ds)
end
mutual
theorem Dt.deep {K : PySem.W.Frag} {H : Hp} : ∀ (d : PyData) (v : V), Dt K H v d → L2.Dp K H v d
  | .none, _, h => by cases h; exact .non
  | .bool b, _, h => by cases h; exact .bl b
  | .int i, _, h => by cases h; exact .int i
  | .str x, _, h => by cases h; exact .str x
  | .list ds, _, h => by
    cases h with
    | lst hs ha => exact .lst (.of hs) (DtAll.deep ds _ ha)
  | .tuple ds, _, h => by
    cases h with
    | tup hs ha => exact .tup hs (DtAll.deep ds _ ha)
  | .dict _, _, h => by cases h
theorem DtAll.deep {K : PySem.W.Frag} {H : Hp} : ∀ (ds : List PyData) (vs : List V), DtAll K H vs ds → L2.DpAll K H vs ds
  | [], _, h => by cases h; exact .nil
  | d :: ds, _, h => by
    cases h with
    | cons h1 h2 => exact .cons (Dt.deep d _ h1) (DtAll.deep ds _ h2)
end
section
variable {K : PySem.W.Frag} {H H' : Hp}
theorem sameRd {a : Addr} {u : HO} (e : Same H H') (h : Rd H a u) : Rd H' a u := by
  rcases h with h | ⟨o, h⟩
  · exact .inl (e _ _ h)
  · exact .inr ⟨o, e _ _ h⟩
theorem sameTup {a : Addr} {xs : List V} (e : Same H H') (h : SqT K H a xs) : SqT K H' a xs := by
  rcases h with h | h
  · exact .inl (sameRd e h)
  · exact .inr h
mutual
theorem Dt.mono (e : Same H H') : ∀ (d : PyData) (v : V), Dt K H v d → Dt K H' v d
  | .none, _, h => by cases h; exact .non
  | .bool b, _, h => by cases h; exact .bl b
  | .int i, _, h => by cases h; exact .int i
  | .str x, _, h => by cases h; exact .str x
  | .list ds, _, h => by
    cases h with
    | lst hs ha => exact .lst (e _ _ hs) (DtAll.mono e ds _ ha)
  | .tuple ds, _, h => by
    cases h with
    | tup hs ha => exact .tup (sameTup e hs) (DtAll.mono e ds _ ha)
  | .dict _, _, h => by cases h
theorem DtAll.mono (e : Same H H') : ∀ (ds : List PyData) (vs : List V), DtAll K H vs ds → DtAll K H' vs ds
  | [], _, h => by cases h; exact .nil
  | d :: ds, _, h => by
    cases h with
    | cons h1 h2 => exact .cons (Dt.mono e d _ h1) (DtAll.mono e ds _ h2)
end
theorem DtAll.length : ∀ {vs : List V} {ds : List PyData}, DtAll K H vs ds → vs.length = ds.length
  | _, _, .nil => rfl
  | _, _, .cons _ t => by rw [List.length_cons, List.length_cons, t.length]
theorem DtAll.get : ∀ {vs : List V} {ds : List PyData} {i : Nat} {d : PyData}, DtAll K H vs ds → ds[i]? = some d → ∃ v, vs[i]? = some v ∧ Dt K H v d
  | _, _, _, _, .nil, e => by simp at e
  | _, _, 0, _, .cons r _, e => by simp at e; subst e; exact ⟨_, rfl, r⟩
  | _, _, i + 1, d, .cons _ t, e => by
    obtain ⟨v, h1, h2⟩ := DtAll.get (i := i) (d := d) t (by simpa using e)
    exact ⟨v, by simpa using h1, h2⟩
theorem DtAll.get' : ∀ {vs : List V} {ds : List PyData} {i : Nat} {v : V}, DtAll K H vs ds → vs[i]? = some v → ∃ d, ds[i]? = some d ∧ Dt K H v d
  | _, _, _, _, .nil, e => by simp at e
  | _, _, 0, _, .cons r _, e => by simp at e; subst e; exact ⟨_, rfl, r⟩
  | _, _, i + 1, d, .cons _ t, e => by
    obtain ⟨v, h1, h2⟩ := DtAll.get' (i := i) (v := d) t (by simpa using e)
    exact ⟨v, by simpa using h1, h2⟩
theorem DtAll.append : ∀ {xs ys : List V} {ds es : List PyData}, DtAll K H xs ds → DtAll K H ys es → DtAll K H (xs ++ ys) (ds ++ es)
  | _, _, _, _, .nil, s => s
  | _, _, _, _, .cons r t, s => .cons r (DtAll.append t s)
theorem DtAll.take : ∀ {xs : List V} {ds : List PyData} (n : Nat), DtAll K H xs ds → DtAll K H (xs.take n) (ds.take n)
  | _, _, 0, _ => .nil
  | _, _, _ + 1, .nil => .nil
  | _, _, n + 1, .cons r t => .cons r (DtAll.take n t)
theorem DtAll.drop : ∀ {xs : List V} {ds : List PyData} (n : Nat), DtAll K H xs ds → DtAll K H (xs.drop n) (ds.drop n)
  | _, _, 0, r => r
  | _, _, _ + 1, .nil => .nil
  | _, _, n + 1, .cons _ t => DtAll.drop n t
theorem DtAll.set {x : V} {d : PyData} (r : Dt K H x d) : ∀ {xs : List V} {ds : List PyData} (i : Nat), DtAll K H xs ds → DtAll K H (xs.set i x) (ds.set i d)
  | _, _, _, .nil => .nil
  | _, _, 0, .cons _ t => .cons r t
  | _, _, i + 1, .cons q t => .cons q (DtAll.set r i t)
theorem DtAll.one {x : V} {d : PyData} (r : Dt K H x d) : DtAll K H [x] [d] := .cons r .nil
theorem DtAll.reverse : ∀ {xs : List V} {ds : List PyData}, DtAll K H xs ds → DtAll K H xs.reverse ds.reverse
  | _, _, .nil => .nil
  | _, _, .cons r t => by
    rw [List.reverse_cons, List.reverse_cons]
    exact (DtAll.reverse t).append (.one r)
theorem DtAll.eraseIdx : ∀ {xs : List V} {ds : List PyData} (i : Nat), DtAll K H xs ds → DtAll K H (xs.eraseIdx i) (ds.eraseIdx i)
  | _, _, _, .nil => .nil
  | _, _, 0, .cons _ t => t
  | _, _, i + 1, .cons q t => .cons q (DtAll.eraseIdx i t)
theorem DtAll.rep : ∀ {xs : List V} {ds : List PyData} (n : Nat), DtAll K H xs ds → DtAll K H (List.replicate n xs).flatten (List.replicate n ds).flatten
  | _, _, 0, _ => .nil
  | _, _, n + 1, r => by
    rw [List.replicate_succ, List.replicate_succ, List.flatten_cons, List.flatten_cons]
    exact r.append (DtAll.rep n r)
theorem DtAll.ints : ∀ (ns : List Int), DtAll K H (ns.map V.int) (ns.map PyData.int)
  | [] => .nil
  | n :: ns => .cons (.int n) (DtAll.ints ns)
theorem DtAll.strs : ∀ (ns : List Str), DtAll K H (ns.map V.str) (ns.map PyData.str)
  | [] => .nil
  | n :: ns => .cons (.str n) (DtAll.strs ns)
theorem DtAll.of_ints : ∀ {vs : List V} {ns : List Int}, DtAll K H vs (ns.map PyData.int) → vs = ns.map V.int
  | _, [], h => by cases h; rfl
  | _, n :: ns, h => by
    cases h with
    | cons r t => cases r; rw [DtAll.of_ints t]; rfl
theorem DtAll.of_strs : ∀ {vs : List V} {ns : List Str}, DtAll K H vs (ns.map PyData.str) → vs = ns.map V.str
  | _, [], h => by cases h; rfl
  | _, n :: ns, h => by
    cases h with
    | cons r t => cases r; rw [DtAll.of_strs t]; rfl

end
section
variable {K : PySem.W.Frag} {H H' : Hp}
/-- a dict's entries -/
inductive DpKV (K : PySem.W.Frag) (H : Hp) : List (Key × V) → List (Key × D) → Prop
  | nil : DpKV K H [] []
  | cons {k : Key} {v : V} {d : D} {ks : List (Key × V)} {es : List (Key × D)} : Dt K H v d → DpKV K H ks es → DpKV K H ((k, v) :: ks) ((k, d) :: es)
theorem DpKV.mono (e : Same H H') : ∀ {ks : List (Key × V)} {es : List (Key × D)}, DpKV K H ks es → DpKV K H' ks es
  | _, _, .nil => .nil
  | _, _, .cons r t => .cons (Dt.mono e _ _ r) (DpKV.mono e t)
theorem DpKV.length : ∀ {ks : List (Key × V)} {es : List (Key × D)}, DpKV K H ks es → ks.length = es.length
  | _, _, .nil => rfl
  | _, _, .cons _ t => by rw [List.length_cons, List.length_cons, t.length]
theorem DpKV.keys : ∀ {ks : List (Key × V)} {es : List (Key × D)}, DpKV K H ks es → ks.map (·.1) = es.map (·.1)
  | _, _, .nil => rfl
  | _, _, .cons _ t => by rw [List.map_cons, List.map_cons, t.keys]

/-- a box: data that stands still (in G), a list or a dict of one's own (in H) -/
inductive RB (K : PySem.W.Frag) (G H : Hp) : V → Sl → List Addr → Prop
  | sh {v : V} {d : D} : Dt K G v d → RB K G H v (.sh d) []
  | ol {p : Addr} {vs : List V} {ds : List D} : H p = some (.lst vs) → DtAll K G vs ds → RB K G H (.ref p) (.ol ds) [p]
  | od {p : Addr} {ks : List (Key × V)} {es : List (Key × D)} : H p = some (.dK ks) → DpKV K G ks es → RB K G H (.ref p) (.od es) [p]
  | sc {p : Addr} {ns : List Int} : SqL K G p (ns.map V.int) → RB K G H (.ref p) (.sc ns) []
inductive RF (K : PySem.W.Frag) (G H : Hp) : List (Str × V) → List (Str × Sl) → List Addr → Prop
  | nil : RF K G H [] [] []
  | cons {f : Str} {v : V} {s : Sl} {o os : List Addr} {fs : List (Str × V)} {ss : List (Str × Sl)} : RB K G H v s o → RF K G H fs ss os → RF K G H ((f, v) :: fs) ((f, s) :: ss) (o ++ os)
inductive RI (K : PySem.W.Frag) (mg : Str → Option Value) (G H : Hp) : Option V → Sl → List Addr → Prop
  | no {ov : Option V} : RI K mg G H ov .no []
  | vw {v : V} {i : Nat} : RI K mg G H (some v) (.vw i) []
  | bx {v : V} {s : Sl} {o : List Addr} : RB K G H v s o → RI K mg G H (some v) s o
  | oi {c : Str} {C p dx : Addr} {fs : List (Str × V)} {ss : List (Str × Sl)} {o : List Addr} : mg c = some (.ref C) → H p = some (.ins C dx fs) → RF K G H fs ss o → RI K mg G H (some (.ref p)) (.oi c ss) (p :: o)
abbrev Item := Option V × Sl
inductive RL (K : PySem.W.Frag) (mg : Str → Option Value) (G H : Hp) : List Item → List Addr → Prop
  | nil : RL K mg G H [] []
  | cons {ov : Option V} {s : Sl} {o os : List Addr} {l : List Item} : RI K mg G H ov s o → RL K mg G H l os → RL K mg G H ((ov, s) :: l) (o ++ os)
/-- the heap bears the items: G what stands still -/
structure Rp (K : PySem.W.Frag) (mg : Str → Option Value) (G H : Hp) (l : List Item) (os : List Addr) : Prop where
  same : Same G H
  rl : RL K mg G H l os
  nd : os.Nodup
  off : ∀ a ∈ os, G a = none
def Rep (K : PySem.W.Frag) (mg : Str → Option Value) (H : Hp) (l : List Item) : Prop := ∃ G os, Rp K mg G H l os

variable {mg : Str → Option Value} {G G' : Hp} {l l' : List Item} {os : List Addr} {v : V} {s : Sl} {ov : Option V} {p : Addr}

theorem RB.mono (e : Same G G') (e' : ∀ a ∈ os, ∀ o, H a = some o → H' a = some o) (h : RB K G H v s os) : RB K G' H' v s os := by
  cases h with
  | sh d => exact .sh (Dt.mono e _ _ d)
  | ol hp ha => exact .ol (e' _ (by simp) _ hp) (DtAll.mono e _ _ ha)
  | od hp ha => exact .od (e' _ (by simp) _ hp) (ha.mono e)
  | sc hs => exact .sc (e.seq hs)
theorem RF.mono (e : Same G G') : ∀ {fs : List (Str × V)} {ss : List (Str × Sl)} {os : List Addr}, (∀ a ∈ os, ∀ o, H a = some o → H' a = some o) → RF K G H fs ss os → RF K G' H' fs ss os
  | _, _, _, _, .nil => .nil
  | _, _, _, e', .cons r t => .cons (r.mono e fun a ha => e' a (List.mem_append_left _ ha)) (RF.mono e (fun a ha => e' a (List.mem_append_right _ ha)) t)
theorem RI.mono (e : Same G G') (e' : ∀ a ∈ os, ∀ o, H a = some o → H' a = some o) (h : RI K mg G H ov s os) : RI K mg G' H' ov s os := by
  cases h with
  | no => exact .no
  | vw => exact .vw
  | bx b => exact .bx (b.mono e e')
  | oi hm hp hf => exact .oi hm (e' _ (by simp) _ hp) (hf.mono e fun a ha => e' a (List.mem_cons_of_mem _ ha))
theorem RL.mono (e : Same G G') : ∀ {l : List Item} {os : List Addr}, (∀ a ∈ os, ∀ o, H a = some o → H' a = some o) → RL K mg G H l os → RL K mg G' H' l os
  | _, _, _, .nil => .nil
  | _, _, e', .cons r t => .cons (r.mono e fun a ha => e' a (List.mem_append_left _ ha)) (RL.mono e (fun a ha => e' a (List.mem_append_right _ ha)) t)
/-- each address of one's own is known -/
theorem RB.there (h : RB K G H v s os) : ∀ a ∈ os, ∃ o, H a = some o := by
  cases h with
  | sh d => intro a ha; cases ha
  | ol hp ha => intro a ha; simp at ha; subst ha; exact ⟨_, hp⟩
  | od hp ha => intro a ha; simp at ha; subst ha; exact ⟨_, hp⟩
  | sc _ => intro a ha; cases ha
theorem RF.there : ∀ {fs : List (Str × V)} {ss : List (Str × Sl)} {os : List Addr}, RF K G H fs ss os → ∀ a ∈ os, ∃ o, H a = some o
  | _, _, _, .nil, a, ha => by cases ha
  | _, _, _, .cons r t, a, ha => by
    rcases List.mem_append.mp ha with ha | ha
    · exact r.there a ha
    · exact RF.there t a ha
theorem RI.there (h : RI K mg G H ov s os) : ∀ a ∈ os, ∃ o, H a = some o := by
  cases h with
  | no => intro a ha; cases ha
  | vw => intro a ha; cases ha
  | bx b => exact b.there
  | oi hm hp hf =>
    intro a ha
    rcases List.mem_cons.mp ha with rfl | ha
    · exact ⟨_, hp⟩
    · exact hf.there a ha
theorem RL.there : ∀ {l : List Item} {os : List Addr}, RL K mg G H l os → ∀ a ∈ os, ∃ o, H a = some o
  | _, _, .nil, a, ha => by cases ha
  | _, _, .cons r t, a, ha => by
    rcases List.mem_append.mp ha with ha | ha
    · exact r.there a ha
    · exact RL.there t a ha
theorem RL.perm : ∀ {l l' : List Item}, l.Perm l' → ∀ {os : List Addr}, RL K mg G H l os → ∃ os', RL K mg G H l' os' ∧ os.Perm os' := by
  intro l l' hp
  induction hp with
  | nil => intro os h; exact ⟨os, h, .refl _⟩
  | cons x _ ih =>
    intro os h
    cases h with
    | cons r t =>
      obtain ⟨os', h', q⟩ := ih t
      exact ⟨_, .cons r h', q.append_left _⟩
  | swap x y l =>
    intro os h
    cases h with
    | cons r t =>
      cases t with
      | cons r2 t2 =>
        refine ⟨_, .cons r2 (.cons r t2), ?_⟩
        rw [← List.append_assoc, ← List.append_assoc]
        exact List.perm_append_comm.append_right _
  | trans _ _ ih1 ih2 =>
    intro os h
    obtain ⟨os1, h1, q1⟩ := ih1 h
    obtain ⟨os2, h2, q2⟩ := ih2 h1
    exact ⟨os2, h2, q1.trans q2⟩
theorem Rp.perm (h : Rp K mg G H l os) (hp : l.Perm l') : ∃ os', Rp K mg G H l' os' := by
  obtain ⟨os', r, q⟩ := h.rl.perm hp
  exact ⟨os', h.same, r, q.nodup_iff.mp h.nd, fun a ha => h.off a (q.mem_iff.mpr ha)⟩
theorem Rep.perm (h : Rep K mg H l) (hp : l.Perm l') : Rep K mg H l' := by
  obtain ⟨G, os, h⟩ := h
  obtain ⟨os', h'⟩ := h.perm hp
  exact ⟨G, os', h'⟩
/-- an item less -/
theorem Rp.tail {it : Item} (h : Rp K mg G H (it :: l) os) : ∃ os', Rp K mg G H l os' := by
  obtain ⟨s, r, n, f⟩ := h
  cases r with
  | cons r t => exact ⟨_, s, t, (List.nodup_append.mp n).2.1, fun a ha => f a (List.mem_append_right _ ha)⟩
theorem Rep.tail {it : Item} (h : Rep K mg H (it :: l)) : Rep K mg H l := by
  obtain ⟨G, os, h⟩ := h
  obtain ⟨os', h'⟩ := h.tail
  exact ⟨G, os', h'⟩
/-- an item that has nothing of its own -/
theorem Rp.push (h : Rp K mg G H l os) (r : RI K mg G H ov s []) : Rp K mg G H ((ov, s) :: l) os := by
  refine ⟨h.same, ?_, h.nd, h.off⟩
  have := RL.cons r h.rl
  simpa using this
theorem Rep.no (h : Rep K mg H l) (ov : Option V) : Rep K mg H ((ov, .no) :: l) := by
  obtain ⟨G, os, h⟩ := h
  exact ⟨G, os, h.push .no⟩
theorem Rp.sh (h : Rp K mg G H l os) {d : D} (r : Dt K G v d) : Rp K mg G H ((some v, .sh d) :: l) os := h.push (.bx (.sh r))
/-- a new object that stands still from now on -/
theorem Rp.still {o : HO} (h : Rp K mg G H l os) (hp : H p = none) : Rp K mg (upd G p o) (upd H p o) l os := by
  have gp : G p = none := h.same.free hp
  have hne : ∀ a ∈ os, a ≠ p := fun a ha e => by
    obtain ⟨u, hu⟩ := h.rl.there a ha
    rw [e, hp] at hu; cases hu
  have sG : Same G (upd G p o) := fun b x e => by rw [upd_ne (ne_of_none e gp)]; exact e
  refine ⟨fun b x e => ?_, h.rl.mono sG (fun a ha x e => by rw [upd_ne (hne a ha)]; exact e), h.nd, fun a ha => by rw [upd_ne (hne a ha)]; exact h.off a ha⟩
  by_cases hb : b = p
  · subst hb; rw [upd_same] at e ⊢; exact e
  · rw [upd_ne hb] at e ⊢; exact h.same b x e
theorem sameG {o : HO} (gp : G p = none) : Same G (upd G p o) := fun b x e => by rw [upd_ne (ne_of_none e gp)]; exact e
/-- a new object of one's own -/
theorem Rp.new {o : HO} (h : Rp K mg G H l os) (hp : H p = none) (r : ∀ H', H' p = some o → RI K mg G H' (some (.ref p)) s [p]) : Rp K mg G (upd H p o) ((some (.ref p), s) :: l) (p :: os) := by
  have gp : G p = none := h.same.free hp
  have hne : ∀ a ∈ os, a ≠ p := fun a ha e => by
    obtain ⟨u, hu⟩ := h.rl.there a ha
    rw [e, hp] at hu; cases hu
  refine ⟨fun b x e => by rw [upd_ne (ne_of_none e gp)]; exact h.same b x e, ?_, List.nodup_cons.mpr ⟨fun ha => hne p ha rfl, h.nd⟩, fun a ha => ?_⟩
  · exact RL.cons (r _ upd_same) (h.rl.mono (fun _ _ q => q) fun a ha x e => by rw [upd_ne (hne a ha)]; exact e)
  · rcases List.mem_cons.mp ha with rfl | ha
    · exact gp
    · exact h.off a ha
/-- an unknown object is written that no item holds (a list under making) -/
theorem Rp.newOl {vs : List V} {ds : List D} (h : Rp K mg G H l os) (hp : H p = none) (ha : DtAll K G vs ds) : Rp K mg G (upd H p (.lst vs)) ((some (.ref p), .ol ds) :: l) (p :: os) :=
  h.new hp fun H' e => .bx (.ol e ha)
/-- a list of one's own is changed -/
theorem Rp.mut {o : HO} {s' : Sl} (h : Rp K mg G H ((some (.ref p), s) :: l) os) (hs : ∀ q, RI K mg G H (some (.ref p)) s q → q = [p]) (r : ∀ H', H' p = some o → RI K mg G H' (some (.ref p)) s' [p]) :
    Rp K mg G (upd H p o) ((some (.ref p), s') :: l) os := by
  obtain ⟨sm, rl, n, f⟩ := h
  cases rl with
  | cons ri t =>
    have e := hs _ ri
    subst e
    have gp : G p = none := f p (by simp)
    have n2 : p ∉ _ ∧ _ := List.nodup_cons.mp (by simpa using n)
    refine ⟨fun b x e => by rw [upd_ne (ne_of_none e gp)]; exact sm b x e, ?_, n, f⟩
    exact RL.cons (r _ upd_same) (t.mono (fun _ _ q => q) fun a ha x e => by rw [upd_ne (fun z => n2.1 (by rw [← z]; exact ha))]; exact e)
theorem ol_own {ds : List D} : ∀ q, RI K mg G H (some (.ref p)) (.ol ds) q → q = [p] := fun q h => by
  cases h with
  | bx b => cases b with
    | ol _ _ => rfl
theorem od_own {ds : List (Key × D)} : ∀ q, RI K mg G H (some (.ref p)) (.od ds) q → q = [p] := fun q h => by
  cases h with
  | bx b => cases b with
    | od _ _ => rfl
/-- a list of one's own stands still from now on -/
theorem Rp.freeze {ds : List D} (h : Rp K mg G H ((ov, .ol ds) :: l) os) : ∃ G' v, ov = some v ∧ Same G G' ∧ Dt K G' v (.list ds) ∧ ∃ os', Rp K mg G' H ((ov, .sh (.list ds)) :: l) os' := by
  obtain ⟨sm, rl, n, f⟩ := h
  cases rl with
  | cons ri t =>
    cases ri with
    | bx b =>
      cases b with
      | @ol p vs ds hp ha =>
        have gp : G p = none := f p (by simp)
        have n2 : p ∉ _ ∧ _ := List.nodup_cons.mp (by simpa using n)
        have sG : Same G (upd G p (.lst vs)) := sameG gp
        have dd : Dt K (upd G p (.lst vs)) (.ref p) (.list ds) := Dt.lst upd_same (DtAll.mono sG _ _ ha)
        refine ⟨upd G p (.lst vs), .ref p, rfl, sG, dd, _, Rp.sh ⟨fun b x e => ?_, t.mono sG (fun a ha x e => e), n2.2, fun a ha => ?_⟩ dd⟩
        · by_cases hb : b = p
          · subst hb; rw [upd_same] at e; rw [hp]; exact e
          · rw [upd_ne hb] at e; exact sm b x e
        · rw [upd_ne (fun z => n2.1 (by rw [← z]; exact ha))]; exact f a (List.mem_append_right _ ha)
theorem Rep.freeze {ds : List D} (h : Rep K mg H ((ov, .ol ds) :: l)) : Rep K mg H ((ov, .sh (.list ds)) :: l) := by
  obtain ⟨G, os, h⟩ := h
  obtain ⟨G', _, _, _, _, os', h'⟩ := h.freeze
  exact ⟨G', os', h'⟩
theorem Rp.shOf {d : D} (h : Rp K mg G H l os) (hm : (ov, .sh d) ∈ l) : ∃ v, ov = some v ∧ Dt K G v d := by
  have key : ∀ {l : List Item} {os : List Addr}, RL K mg G H l os → (ov, Sl.sh d) ∈ l → ∃ v, ov = some v ∧ Dt K G v d := by
    intro l os r
    induction r with
    | nil => intro h; cases h
    | cons ri t ih =>
      intro h
      rcases List.mem_cons.mp h with e | h
      · cases e
        cases ri with
        | bx b => cases b with
          | sh d => exact ⟨_, rfl, d⟩
      · exact ih h
  exact key h.rl hm
theorem Rp.someOf (h : Rp K mg G H l os) (hm : (ov, s) ∈ l) (hn : s ≠ .no) : ∃ v, ov = some v := by
  have key : ∀ {l : List Item} {os : List Addr}, RL K mg G H l os → (ov, s) ∈ l → ∃ v, ov = some v := by
    intro l os r
    induction r with
    | nil => intro h; cases h
    | cons ri t ih =>
      intro h
      rcases List.mem_cons.mp h with e | h
      · cases e
        cases ri with
        | no => exact absurd rfl hn
        | vw => exact ⟨_, rfl⟩
        | bx b => exact ⟨_, rfl⟩
        | oi _ _ _ => exact ⟨_, rfl⟩
      · exact ih h
  exact key h.rl hm
end
end FL

/-! FL2: readings as functions: expressions -/
namespace FL
open PySem PySem.Spec PyProof.Rows L2

/-! ### the frame's items -/
theorem zip_perm : ∀ {σ : List (Option V)} {env : Lo} {i : Nat} {ov : Option V} {s : Sl}, σ[i]? = some ov → env[i]? = some s →
    ∃ R : List Item, (σ.zip env).Perm ((ov, s) :: R) ∧ (∀ ov' s', ((σ.set i ov').zip (env.set i s')).Perm ((ov', s') :: R)) ∧ ∀ s', (σ.zip (env.set i s')).Perm ((ov, s') :: R)
  | [], _, _, _, _, h, _ => by simp at h
  | _ :: _, [], _, _, _, _, h => by simp at h
  | a :: σ, b :: env, 0, ov, s, h1, h2 => by
    simp at h1 h2; subst h1; subst h2
    exact ⟨σ.zip env, .refl _, fun _ _ => .refl _, fun _ => .refl _⟩
  | a :: σ, b :: env, i + 1, ov, s, h1, h2 => by
    obtain ⟨R, p1, p2, p3⟩ := zip_perm (σ := σ) (env := env) (i := i) (ov := ov) (s := s) (by simpa using h1) (by simpa using h2)
    refine ⟨(a, b) :: R, ?_, fun ov' s' => ?_, fun s' => ?_⟩
    · exact (p1.cons _).trans (.swap _ _ _)
    · exact ((p2 ov' s').cons _).trans (.swap _ _ _)
    · exact ((p3 s').cons _).trans (.swap _ _ _)
theorem mem_zip : ∀ {σ : List (Option V)} {env : Lo} {i : Nat} {ov : Option V} {s : Sl}, σ[i]? = some ov → env[i]? = some s → (ov, s) ∈ σ.zip env
  | [], _, _, _, _, h, _ => by simp at h
  | _ :: _, [], _, _, _, _, h => by simp at h
  | a :: σ, b :: env, 0, ov, s, h1, h2 => by
    simp at h1 h2; subst h1; subst h2; simp
  | a :: σ, b :: env, i + 1, ov, s, h1, h2 => by
    rw [List.zip_cons_cons]
    exact List.mem_cons_of_mem _ (mem_zip (by simpa using h1) (by simpa using h2))

structure Hold (K : PySem.W.Frag) (mg : Str → Option Value) (H : Hp) (σ : L2.St) (env : Lo) (l : List Item) : Prop where
  len : σ.length = env.length
  rep : Rep K mg H (σ.zip env ++ l)
def VwOk (σ : L2.St) (v : V) (r : Sl) : Prop := ∀ i, r = .vw i → σ[i]? = some (some v)
structure HoldV (K : PySem.W.Frag) (mg : Str → Option Value) (H : Hp) (σ : L2.St) (env : Lo) (l : List Item) (v : V) (r : Sl) : Prop where
  len : σ.length = env.length
  rep : Rep K mg H ((some v, r) :: (σ.zip env ++ l))
  vw : VwOk σ v r

section
variable {K : PySem.W.Frag} {mg : Str → Option Value} {G H H' : Hp} {σ : L2.St} {env : Lo} {l L : List Item} {os : List Addr} {v : V} {r s : Sl} {i : Nat} {ov : Option V}
theorem slot_at (h : σ.length = env.length) (e : env[i]? = some s) : ∃ ov, σ[i]? = some ov := by
  have hi : i < env.length := (List.getElem?_eq_some_iff.mp e).1
  exact ⟨σ[i]'(by omega), List.getElem?_eq_getElem (by omega)⟩
/-- a slot's item is taken out -/
theorem Hold.take (h : Hold K mg H σ env l) (e : env[i]? = some s) : ∃ ov, σ[i]? = some ov ∧ Rep K mg H ((ov, s) :: (σ.zip (env.set i .no) ++ l)) := by
  obtain ⟨ov, e1⟩ := slot_at h.len e
  obtain ⟨R, p1, _, p3⟩ := zip_perm e1 e
  refine ⟨ov, e1, ?_⟩
  have q : Rep K mg H ((ov, s) :: (R ++ l)) := h.rep.perm (p1.append_right l)
  have q2 : Rep K mg H ((ov, .no) :: ((ov, s) :: (R ++ l))) := q.no ov
  refine q2.perm ?_
  refine (List.Perm.swap _ _ _).trans (List.Perm.cons _ ?_)
  exact ((p3 .no).append_right l).symm
/-- .. and put back -/
theorem Rep.put (h : Rep K mg H ((ov, s) :: (σ.zip env ++ l))) (hl : σ.length = env.length) (e : σ[i]? = some ov) : Rep K mg H (σ.zip (env.set i s) ++ l) := by
  have hi : i < σ.length := (List.getElem?_eq_some_iff.mp e).1
  have e2 : env[i]? = some (env[i]'(by omega)) := List.getElem?_eq_getElem (by omega)
  obtain ⟨R, p1, _, p3⟩ := zip_perm e e2
  have q : Rep K mg H ((ov, env[i]'(by omega)) :: ((ov, s) :: (R ++ l))) := h.perm (((p1.append_right l).cons _).trans (.swap _ _ _))
  exact q.tail.perm ((p3 s).append_right l).symm
/-- a slot gets a value -/
theorem Rep.asg (h : Rep K mg H ((some v, r) :: (σ.zip env ++ l))) (hl : σ.length = env.length) (hi : i < env.length) : Rep K mg H ((σ.set i (some v)).zip (env.set i r) ++ l) := by
  have e1 : σ[i]? = some (σ[i]'(by omega)) := List.getElem?_eq_getElem (by omega)
  have e2 : env[i]? = some (env[i]'(by omega)) := List.getElem?_eq_getElem (by omega)
  obtain ⟨R, p1, p2, _⟩ := zip_perm e1 e2
  have q : Rep K mg H ((σ[i]'(by omega), env[i]'(by omega)) :: ((some v, r) :: (R ++ l))) := h.perm (((p1.append_right l).cons _).trans (.swap _ _ _))
  exact q.tail.perm ((p2 _ r).append_right l).symm
theorem Hold.more {it : Item} (h : Hold K mg H σ env (it :: l)) : Hold K mg H σ env l := ⟨h.len, by
  have : Rep K mg H (it :: (σ.zip env ++ l)) := h.rep.perm List.perm_middle
  exact this.tail⟩
theorem HoldV.hold (h : HoldV K mg H σ env l v r) : Hold K mg H σ env ((some v, r) :: l) := ⟨h.len, h.rep.perm List.perm_middle.symm⟩
theorem HoldV.drop (h : HoldV K mg H σ env l v r) : Hold K mg H σ env l := ⟨h.len, h.rep.tail⟩
theorem Hold.toV (h : Hold K mg H σ env ((some v, r) :: l)) (hv : VwOk σ v r) : HoldV K mg H σ env l v r := ⟨h.len, h.rep.perm List.perm_middle, hv⟩

/-! ### what a value is worth now -/
def view (env : Lo) : Sl → Option D
  | .sh d => some d
  | .ol ds => some (.list ds)
  | .vw i => match env[i]? with
    | some (.ol ds) => some (.list ds)
    | _ => none
  | _ => none
/-- data; a list of one's own above data -/
def DpT (K : PySem.W.Frag) (G H : Hp) (v : V) (d : D) : Prop := Dt K G v d ∨ ∃ p vs ds, v = .ref p ∧ d = .list ds ∧ H p = some (.lst vs) ∧ DtAll K G vs ds
theorem DpT.list {ds : List D} (sm : Same G H) (h : DpT K G H v (.list ds)) : ∃ p vs, v = .ref p ∧ H p = some (.lst vs) ∧ DtAll K G vs ds := by
  rcases h with h | ⟨p, vs, ds', rfl, e, hp, ha⟩
  · cases h with
    | lst hs ha => exact ⟨_, _, rfl, sm _ _ hs, ha⟩
  · cases e
    exact ⟨p, vs, rfl, hp, ha⟩
theorem DpT.tuple {ds : List D} (sm : Same G H) (h : DpT K G H v (.tuple ds)) : ∃ p vs, v = .ref p ∧ SqT K H p vs ∧ DtAll K G vs ds := by
  rcases h with h | ⟨p, vs, ds', rfl, e, hp, ha⟩
  · cases h with
    | tup hs ha => exact ⟨_, _, rfl, sameTup sm hs, ha⟩
  · cases e
theorem DpT.int {n : Int} (h : DpT K G H v (.int n)) : v = .int n := by
  rcases h with h | ⟨p, vs, ds', rfl, e, hp, ha⟩
  · cases h; rfl
  · cases e
theorem DpT.str {x : Str} (h : DpT K G H v (.str x)) : v = .str x := by
  rcases h with h | ⟨p, vs, ds', rfl, e, hp, ha⟩
  · cases h; rfl
  · cases e
theorem DpT.bool {b : Bool} (h : DpT K G H v (.bool b)) : v = .bl b := by
  rcases h with h | ⟨p, vs, ds', rfl, e, hp, ha⟩
  · cases h; rfl
  · cases e
theorem DpT.none (h : DpT K G H v .none) : v = .non := by
  rcases h with h | ⟨p, vs, ds', rfl, e, hp, ha⟩
  · cases h; rfl
  · cases e
theorem DpT.dp {d : D} (sm : Same G H) (h : DpT K G H v d) : Dt K H v d := by
  rcases h with h | ⟨p, vs, ds', rfl, rfl, hp, ha⟩
  · exact Dt.mono sm _ _ h
  · exact .lst hp (DtAll.mono sm _ _ ha)
theorem RI.ol_inv {ds : List D} (h : RI K mg G H ov (.ol ds) os) : ∃ p vs, ov = some (.ref p) ∧ os = [p] ∧ H p = some (.lst vs) ∧ DtAll K G vs ds := by
  cases h with
  | bx b => cases b with
    | ol hp ha => exact ⟨_, _, rfl, rfl, hp, ha⟩
theorem RL.mem (h : RL K mg G H L os) (hm : (ov, s) ∈ L) : ∃ o, RI K mg G H ov s o := by
  induction h with
  | nil => cases hm
  | cons ri t ih =>
    rcases List.mem_cons.mp hm with e | hm
    · cases e; exact ⟨_, ri⟩
    · exact ih hm
theorem Rp.view (h : Rp K mg G H L os) (hm : (some v, r) ∈ L) (hz : ∀ it ∈ σ.zip env, it ∈ L) (hv : VwOk σ v r) {d : D} (e : view env r = some d) : DpT K G H v d := by
  cases r with
  | no => cases e
  | sh d' =>
    cases e
    obtain ⟨v', e', q⟩ := h.shOf hm
    cases e'
    exact .inl q
  | ol ds =>
    cases e
    obtain ⟨o, q⟩ := h.rl.mem hm
    obtain ⟨p, vs, e', _, hp, ha⟩ := q.ol_inv
    cases e'
    exact .inr ⟨p, vs, ds, rfl, rfl, hp, ha⟩
  | od _ => cases e
  | oi _ _ => cases e
  | sc _ => cases e
  | vw i =>
    have e1 := hv i rfl
    have e : (match env[i]? with | some (Sl.ol ds) => some (PyData.list ds) | _ => Option.none) = some d := e
    split at e
    · rename_i ds e2
      cases e
      obtain ⟨o, q⟩ := h.rl.mem (hz _ (mem_zip e1 e2))
      obtain ⟨p, vs, e', _, hp, ha⟩ := q.ol_inv
      cases e'
      exact .inr ⟨p, vs, ds, rfl, rfl, hp, ha⟩
    · cases e

/-! ### new objects -/
inductive Grow (G H : Hp) : Hp → Hp → Prop
  | refl : Grow G H G H
  | step {G1 H1 : Hp} {p : Addr} {o : HO} : Grow G H G1 H1 → H1 p = Option.none → Grow G H (upd G1 p o) (upd H1 p o)
theorem Grow.trans {G1 H1 G2 H2 : Hp} (a : Grow G H G1 H1) (b : Grow G1 H1 G2 H2) : Grow G H G2 H2 := by
  induction b with
  | refl => exact a
  | step _ hp ih => exact .step ih hp
theorem Rp.grow {G' : Hp} (h : Rp K mg G H L os) (g : Grow G H G' H') : Rp K mg G' H' L os := by
  induction g with
  | refl => exact h
  | step _ hp ih => exact ih.still hp
theorem Grow.same {G' : Hp} (sm : Same G H) (g : Grow G H G' H') : Same G G' ∧ Same H H' ∧ Same G' H' := by
  induction g with
  | refl => exact ⟨.refl _, .refl _, sm⟩
  | @step G1 H1 p o _ hp ih =>
    obtain ⟨a, b, c⟩ := ih
    have gp : G1 p = Option.none := c.free hp
    refine ⟨a.trans (sameG gp), b.trans (sameG hp), fun x y e => ?_⟩
    by_cases hx : x = p
    · subst hx; rw [upd_same] at e ⊢; exact e
    · rw [upd_ne hx] at e ⊢; exact c x y e
/-- a pure operation's answer -/
inductive Got (K : PySem.W.Frag) (G H : Hp) : V → Sl → Hp → Prop
  | sh {v : V} {d : D} {G' H' : Hp} : Grow G H G' H' → Dt K G' v d → Got K G H v (.sh d) H'
  | ol {p : Addr} {vs : List V} {ds : List D} {G1 H1 : Hp} : Grow G H G1 H1 → H1 p = Option.none → DtAll K G1 vs ds → Got K G H (.ref p) (.ol ds) (upd H1 p (.lst vs))
theorem Got.now {d : D} (h : Dt K G v d) : Got K G H v (.sh d) H := .sh .refl h
theorem Got.newL {p : Addr} {vs : List V} {ds : List D} (hp : H p = Option.none) (h : DtAll K G vs ds) : Got K G H (.ref p) (.ol ds) (upd H p (.lst vs)) := .ol .refl hp h
theorem Got.newT {p : Addr} {vs : List V} {ds : List D} (sm : Same G H) (hp : H p = Option.none) (h : DtAll K G vs ds) : Got K G H (.ref p) (.sh (.tuple ds)) (upd H p (.tup vs)) :=
  .sh (.step .refl hp) (Dt.tup (.of upd_same) (DtAll.mono (sameG (sm.free hp)) _ _ h))
theorem Rp.got (h : Rp K mg G H L os) (g : Got K G H v s H') : Rep K mg H' ((some v, s) :: L) := by
  cases g with
  | sh g d => exact ⟨_, _, (h.grow g).sh d⟩
  | ol g hp d => exact ⟨_, _, (h.grow g).newOl hp d⟩
theorem Got.novw (g : Got K G H v s H') : VwOk σ v s := by
  intro i e
  cases g with
  | sh _ _ => cases e
  | ol _ _ _ => cases e
end

/-! ### the judgements -/
abbrev EvF := Lo → Res (Sl × Lo)
abbrev EvT := Lo → Res (Bool × Lo)
abbrev EvA := Lo → Res (List Sl × Lo)
def SemE (K : PySem.W.Frag) (mg : Str → Option Value) (t : TE) (f : EvF) : Prop :=
  ∀ (σ : L2.St) (H : Hp) (env : Lo) (l : List Item) (r : Sl) (env' : Lo), Hold K mg H σ env l → f env = .ok (r, env') → ∀ Q : VK, (∀ v H', HoldV K mg H' σ env' l v r → Q v H') → t σ H Q
def SemT (K : PySem.W.Frag) (mg : Str → Option Value) (t : TT) (f : EvT) : Prop :=
  ∀ (σ : L2.St) (H : Hp) (env : Lo) (l : List Item) (b : Bool) (env' : Lo), Hold K mg H σ env l → f env = .ok (b, env') → ∀ Q : Bool → Hp → Prop, (∀ H', Hold K mg H' σ env' l → Q b H') → t σ H Q
/-- arguments, from the left -/
structure HoldA (K : PySem.W.Frag) (mg : Str → Option Value) (H : Hp) (σ : L2.St) (env : Lo) (l : List Item) (vs : List V) (rs : List Sl) : Prop where
  len : σ.length = env.length
  rep : Rep K mg H ((vs.map some).zip rs ++ (σ.zip env ++ l))
  alen : vs.length = rs.length
  vw : ∀ (k : Nat) (v : V) (r : Sl), vs[k]? = some v → rs[k]? = some r → VwOk σ v r
def SemA (K : PySem.W.Frag) (mg : Str → Option Value) (t : TA) (f : EvA) : Prop :=
  ∀ (σ : L2.St) (H : Hp) (env : Lo) (l : List Item) (rs : List Sl) (env' : Lo), Hold K mg H σ env l → f env = .ok (rs, env') → ∀ Q : List V → Hp → Prop, (∀ vs H', HoldA K mg H' σ env' l vs rs → Q vs H') → t σ H Q
structure SE (X : Cx) (e : Expr) (f : EvF) : Prop where
  ex : ∃ t, PE X e t ∧ SemE X.K X.mg t f
structure ST (X : Cx) (e : Expr) (f : EvT) : Prop where
  ex : ∃ t, PT X e t ∧ SemT X.K X.mg t f
structure SW (X : Cx) (e : Expr) (f : EvT) : Prop where
  ex : ∃ t, PW X e t ∧ SemT X.K X.mg t f
structure SA (X : Cx) (es : List Expr) (f : EvA) : Prop where
  ex : ∃ t, PA X es t ∧ SemA X.K X.mg t f

/-! ### names and constants -/
def fVar (i : Nat) : EvF := fun env => match env[i]? with
  | some (.sh d) => .ok (.sh d, env)
  | some (.ol _) => .ok (.vw i, env)
  | some (.od _) => .ok (.vw i, env)
  | some (.oi _ _) => .ok (.vw i, env)
  | some (.sc ns) => .ok (.sc ns, env)
  | _ => .bad
theorem sem_var {K : PySem.W.Frag} {mg : Str → Option Value} {i : Nat} : SemE K mg (tVar i) (fVar i) := by
  intro σ H env l r env' h e Q q
  have key : ∀ s, env[i]? = some s → s ≠ .no → ∃ v, σ[i]? = some (some v) ∧ (some v, s) ∈ σ.zip env := fun s e2 hn => by
    obtain ⟨ov, e1⟩ := slot_at h.len e2
    obtain ⟨G, os, rp⟩ := h.rep
    obtain ⟨v, hv⟩ := rp.someOf (List.mem_append_left _ (mem_zip e1 e2)) hn
    subst hv
    exact ⟨v, e1, mem_zip e1 e2⟩
  unfold fVar at e
  split at e
  · rename_i d e2
    cases e
    obtain ⟨v, e1, hm⟩ := key _ e2 (by intro z; cases z)
    refine ⟨v, e1, q v H ⟨h.len, ?_, fun _ z => by cases z⟩⟩
    obtain ⟨G, os, rp⟩ := h.rep
    obtain ⟨v', e', d'⟩ := rp.shOf (List.mem_append_left _ hm)
    cases e'
    exact ⟨G, os, rp.sh d'⟩
  case h_5 =>
    rename_i ns e2
    cases e
    obtain ⟨v, e1, hm⟩ := key _ e2 (by intro z; cases z)
    refine ⟨v, e1, q v H ⟨h.len, ?_, fun _ z => by cases z⟩⟩
    obtain ⟨G, os, rp⟩ := h.rep
    obtain ⟨o, ri⟩ := rp.rl.mem (List.mem_append_left _ hm)
    cases ri with
    | bx b => cases b with
      | sc hs => exact ⟨G, os, rp.push (.bx (.sc hs))⟩
  all_goals first
    | (rename_i e2
       cases e
       obtain ⟨v, e1, hm⟩ := key _ e2 (by intro z; cases z)
       refine ⟨v, e1, q v H ⟨h.len, ?_, fun j z => by cases z; exact e1⟩⟩
       obtain ⟨G, os, rp⟩ := h.rep
       exact ⟨G, os, rp.push .vw⟩)
    | (cases e)
def fC (d : D) : EvF := fun env => .ok (.sh d, env)
theorem sem_c {K : PySem.W.Frag} {mg : Str → Option Value} {v : V} {d : D} (hd : ∀ G, Dt K G v d) : SemE K mg (tC v) (fC d) := by
  intro σ H env l r env' h e Q q
  cases e
  obtain ⟨G, os, rp⟩ := h.rep
  exact q v H ⟨h.len, ⟨G, os, rp.sh (hd G)⟩, fun _ z => by cases z⟩
section
variable {X : Cx} {pos : Pos}
theorem se_v (i : Nat) {x : Str} (hN : X.N[i]? = some x := by rfl) (hv : Vis X.env.scope x := by first | exact Or.inl rfl | exact Or.inr (Or.inl rfl) | exact Or.inr (Or.inr rfl)) (hd : (x == ("__debug__" : Str)) = false := by decide)
    (hcd : (x == ("__classdict__" : Str)) = false := by decide) : SE X (.Name x pos) (fVar i) := ⟨_, pe_var hN hv hd hcd, sem_var⟩
theorem se_int {i j} : SE X (.Constant (.int i) j pos) (fC (.int i)) := ⟨_, pe_int, sem_c fun _ => .int i⟩
theorem se_bl {b j} : SE X (.Constant (.bool b) j pos) (fC (.bool b)) := ⟨_, pe_bl, sem_c fun _ => .bl b⟩
theorem se_non {j} : SE X (.Constant .none j pos) (fC .none) := ⟨_, pe_non, sem_c fun _ => .non⟩
theorem se_str {x j} : SE X (.Constant (.str x) j pos) (fC (.str x)) := ⟨_, pe_str, sem_c fun _ => .str x⟩
end

/-! ### operations by values -/
def SemOp (K : PySem.W.Frag) (r : R2) (op : D → D → Option Sl) : Prop :=
  ∀ (G H : Hp) (x y : V) (dx dy : D) (s : Sl) (Q : VK), Same G H → DpT K G H x dx → DpT K G H y dy → op dx dy = some s → (∀ v H', Got K G H v s H' → Q v H') → r x y H Q
def fOp (op : D → D → Option Sl) (fa fb : EvF) : EvF := fun env => do
  let (ra, e1) ← fa env
  let (rb, e2) ← fb e1
  let a ← Res.ofO (view e2 ra)
  let b ← Res.ofO (view e2 rb)
  let s ← Res.ofO (op a b)
  .ok (s, e2)
theorem sem_op {K : PySem.W.Frag} {mg : Str → Option Value} {r : R2} {op : D → D → Option Sl} {ta tb : TE} {fa fb : EvF} (ho : SemOp K r op) (ha : SemE K mg ta fa) (hb : SemE K mg tb fb) : SemE K mg (tOp r ta tb) (fOp op fa fb) := by
  intro σ H env l s env' h e Q q
  unfold fOp at e
  obtain ⟨⟨ra, e1⟩, ea, e⟩ := Res.bind_ok e
  obtain ⟨⟨rb, e2⟩, eb, e⟩ := Res.bind_ok e
  obtain ⟨a, va, e⟩ := Res.bind_ok e
  obtain ⟨b, vb, e⟩ := Res.bind_ok e
  obtain ⟨s', es, e⟩ := Res.bind_ok e
  cases e
  have va := Res.ofO_ok va
  have vb := Res.ofO_ok vb
  have es := Res.ofO_ok es
  refine ha σ H env l ra e1 h ea _ fun x H1 h1 => ?_
  refine hb σ H1 e1 _ rb _ h1.hold eb _ fun y H2 h2 => ?_
  obtain ⟨G, os, rp⟩ := h2.rep
  have dx : DpT K G H2 x a := rp.view (σ := σ) (List.mem_cons_of_mem _ (List.mem_append_right _ List.mem_cons_self)) (fun it hi => List.mem_cons_of_mem _ (List.mem_append_left _ hi)) h1.vw va
  have dy : DpT K G H2 y b := rp.view (σ := σ) List.mem_cons_self (fun it hi => List.mem_cons_of_mem _ (List.mem_append_left _ hi)) h2.vw vb
  refine ho G H2 x y a b s Q rp.same dx dy es fun v H3 g => q v H3 ⟨h2.len, ?_, g.novw⟩
  have h3 := h2.drop.more
  have : Rep K mg H3 ((some v, s) :: ((some y, rb) :: (σ.zip env' ++ (some x, ra) :: l))) := rp.got g
  have p : ((some v, s) :: ((some y, rb) :: (σ.zip env' ++ (some x, ra) :: l))).Perm ((some y, rb) :: (some x, ra) :: (some v, s) :: (σ.zip env' ++ l)) := by
    refine (List.Perm.swap _ _ _).trans (List.Perm.cons _ ?_)
    exact ((List.perm_middle (l₁ := σ.zip env')).cons _).trans (.swap _ _ _)
  exact (this.perm p).tail.tail
theorem SemOp.or {K : PySem.W.Frag} {r r' : R2} {op op' : D → D → Option Sl} (h : SemOp K r op) (h' : SemOp K r' op') : SemOp K (fun x y H Q => r x y H Q ∨ r' x y H Q) (fun a b => (op a b).orElse fun _ => op' a b) := by
  intro G H x y dx dy s Q sm a b e q
  have e : ((op dx dy).orElse fun _ => op' dx dy) = some s := e
  cases e1 : op dx dy with
  | some s' =>
    rw [e1] at e; cases e
    exact .inl (h G H x y dx dy s Q sm a b e1 q)
  | none =>
    rw [e1] at e
    exact .inr (h' G H x y dx dy s Q sm a b e q)
/-- one operand -/
def fOp1 (op : D → Option Sl) (fa : EvF) : EvF := fun env => do
  let (ra, e1) ← fa env
  let a ← Res.ofO (view e1 ra)
  let s ← Res.ofO (op a)
  .ok (s, e1)
/-- by values, one operand -/
def SemU (K : PySem.W.Frag) (r : V → Hp → VK → Prop) (op : D → Option Sl) : Prop :=
  ∀ (G H : Hp) (x : V) (dx : D) (s : Sl) (Q : VK), Same G H → DpT K G H x dx → op dx = some s → (∀ v H', Got K G H v s H' → Q v H') → r x H Q
theorem sem_un {K : PySem.W.Frag} {mg : Str → Option Value} {r : V → Hp → VK → Prop} {op : D → Option Sl} {ta : TE} {fa : EvF} (ho : SemU K r op) (ha : SemE K mg ta fa) : SemE K mg (fun σ H Q => ta σ H fun x H1 => r x H1 Q) (fOp1 op fa) := by
  intro σ H env l s env' h e Q q
  unfold fOp1 at e
  obtain ⟨⟨ra, e1⟩, ea, e⟩ := Res.bind_ok e
  obtain ⟨a, va, e⟩ := Res.bind_ok e
  obtain ⟨s', es, e⟩ := Res.bind_ok e
  cases e
  have va := Res.ofO_ok va
  have es := Res.ofO_ok es
  refine ha σ H env l ra _ h ea _ fun x H1 h1 => ?_
  obtain ⟨G, os, rp⟩ := h1.rep
  refine ho G H1 x a s Q rp.same (rp.view (σ := σ) List.mem_cons_self (fun it hi => List.mem_cons_of_mem _ (List.mem_append_left _ hi)) h1.vw va) es fun v H3 g => q v H3 ⟨h1.len, ?_, g.novw⟩
  exact ((rp.got g).perm (.swap _ _ _)).tail

/-! ### arguments -/
def fNil : EvA := fun env => .ok ([], env)
def fCons (fa : EvF) (fr : EvA) : EvA := fun env => do
  let (r, e1) ← fa env
  let (rs, e2) ← fr e1
  .ok (r :: rs, e2)
theorem sem_nil {K : PySem.W.Frag} {mg : Str → Option Value} : SemA K mg tNil fNil := by
  intro σ H env l rs env' h e Q q
  cases e
  exact q [] H ⟨h.len, h.rep, rfl, fun k v r e => by simp at e⟩
theorem sem_cons {K : PySem.W.Frag} {mg : Str → Option Value} {ta : TE} {tr : TA} {fa : EvF} {fr : EvA} (ha : SemE K mg ta fa) (hr : SemA K mg tr fr) : SemA K mg (tCons ta tr) (fCons fa fr) := by
  intro σ H env l rs env' h e Q q
  unfold fCons at e
  obtain ⟨⟨ra, e1⟩, ea, e⟩ := Res.bind_ok e
  obtain ⟨⟨rb, e2⟩, eb, e⟩ := Res.bind_ok e
  cases e
  refine ha σ H env l ra e1 h ea _ fun x H1 h1 => ?_
  refine hr σ H1 e1 _ rb _ h1.hold eb _ fun ys H2 h2 => q (x :: ys) H2 ⟨h2.len, ?_, by simp [h2.alen], fun k v r e1 e2 => ?_⟩
  · rw [List.map_cons, List.zip_cons_cons, List.cons_append]
    refine h2.rep.perm ?_
    rw [← List.append_assoc, ← List.append_assoc]
    exact List.perm_middle
  · cases k with
    | zero => simp at e1 e2; subst e1; subst e2; exact h1.vw
    | succ k => exact h2.vw k v r (by simpa using e1) (by simpa using e2)
section
variable {X : Cx}
theorem sa_nil : SA X [] fNil := ⟨_, pa_nil, sem_nil⟩
theorem sa_cons {e : Expr} {es : List Expr} {fa : EvF} {fr : EvA} (ha : SE X e fa) (hr : SA X es fr) (hs : starEach (e :: es) X.env = (false, eval e X.env) :: starEach es X.env := by rfl) : SA X (e :: es) (fCons fa fr) := by
  obtain ⟨t, p, s⟩ := ha.ex
  obtain ⟨t', p', s'⟩ := hr.ex
  exact ⟨_, pa_cons p p' hs, sem_cons s s'⟩
end
end FL

/-! FL3: operators, comparisons, tests, subscripts, displays, calls of built-ins -/
namespace FL
open PySem PySem.Spec PyProof.Rows L2

theorem sizeL {n : Nat} (h : n ≤ 16777216) : n ≤ sizeLine := by rw [sizeLine_eq]; exact h
theorem sizeL' {n : Nat} (h : n < 16777216) : n < sizeLine := by rw [sizeLine_eq]; exact h
section
variable {K : PySem.W.Frag} {G H : Hp}
theorem Got.int {i : Int} : Got K G H (.int i) (.sh (.int i)) H := .now (.int i)
theorem Got.bl {b : Bool} : Got K G H (.bl b) (.sh (.bool b)) H := .now (.bl b)
theorem Got.str {x : Str} : Got K G H (.str x) (.sh (.str x)) H := .now (.str x)
end

/-! ### + - * // % ** -/
def addD : D → D → Option Sl
  | .int i, .int j => some (.sh (.int (i + j)))
  | .str x, .str y => if x.length + y.length ≤ 16777216 then some (.sh (.str (x ++ y))) else none
  | .list a, .list b => if a.length + b.length ≤ 16777216 then some (.ol (a ++ b)) else none
  | .tuple a, .tuple b => if a.length + b.length ≤ 16777216 then some (.sh (.tuple (a ++ b))) else none
  | _, _ => none
def subD : D → D → Option Sl
  | .int i, .int j => some (.sh (.int (i - j)))
  | _, _ => none
def mulOk (i j : Int) : Bool := !(decide (Builtin.Int.intBits i > shortFactorBits) && decide (Builtin.Int.intBits j > shortFactorBits) && Builtin.Int.intTooBig (Builtin.Int.intBits i + Builtin.Int.intBits j))
theorem mulOk_iff {i j : Int} : mulOk i j = true ↔ IntMulOk i j := by
  unfold mulOk IntMulOk
  cases (decide (Builtin.Int.intBits i > shortFactorBits) && decide (Builtin.Int.intBits j > shortFactorBits) && Builtin.Int.intTooBig (Builtin.Int.intBits i + Builtin.Int.intBits j)) <;> simp
theorem mulOk_log {i j : Int} (h : i.natAbs.log2 + j.natAbs.log2 < 1000000) : mulOk i j = true := mulOk_iff.mpr (CMulW.ok h)
theorem mulOk_left {i j : Int} (h1 : -(2 ^ 64) < i) (h2 : i < 2 ^ 64) : mulOk i j = true := mulOk_iff.mpr (.of_left (intBits_le_64 h1 h2))
theorem mulOk_right {i j : Int} (h1 : -(2 ^ 64) < j) (h2 : j < 2 ^ 64) : mulOk i j = true := mulOk_iff.mpr (.of_right (intBits_le_64 h1 h2))
def mulD : D → D → Option Sl
  | .int i, .int j => if mulOk i j = true then some (.sh (.int (i * j))) else none
  | .list a, .int k => if -(2 ^ 63) ≤ k ∧ k < 2 ^ 63 ∧ a.length * k.toNat ≤ 16777216 then some (.ol (List.replicate k.toNat a).flatten) else none
  | .tuple a, .int k => if a ≠ [] ∧ 2 ≤ k ∧ k ≤ 1000 ∧ a.length ≤ 1000 then some (.sh (.tuple (List.replicate k.toNat a).flatten)) else none
  | _, _ => none
def divOk (i j : Int) : Bool := decide (j ≠ 0) && !(Builtin.divisionGoesByPylong i j)
def divD : D → D → Option Sl
  | .int i, .int j => if divOk i j = true then some (.sh (.int (i.fdiv j))) else none
  | _, _ => none
def modD : D → D → Option Sl
  | .int i, .int j => if 0 < j then some (.sh (.int (i % j))) else none
  | _, _ => none
def powD : D → D → Option Sl
  | .int i, .int j => if 0 ≤ j ∧ j ≤ 1000000 ∧ i.natAbs < 2 ^ 64 then some (.sh (.int (i ^ j.toNat))) else none
  | _, _ => none
def rAddAll (K : PySem.W.Frag) : R2 := fun x y H Q => (∃ i j, x = .int i ∧ y = .int j ∧ Q (.int (i + j)) H) ∨
  (∃ i j, x = .str i ∧ y = .str j ∧ i.length + j.length ≤ sizeLine ∧ Q (.str (i ++ j)) H) ∨ rCat x y H Q ∨ rCatA K x y H Q
theorem or_add {X : Cx} : OpR X (binaryOp .Add) (rAddAll X.K) := op_add.or (op_add_str.or (op_cat.or op_catA))
theorem so_add {K : PySem.W.Frag} : SemOp K (rAddAll K) addD := by
  intro G H x y dx dy s Q sm a b e q
  cases dx <;> cases dy <;> first | (cases e; done) | skip
  case int.int i j =>
    cases e
    exact .inl ⟨i, j, a.int, b.int, q _ _ .int⟩
  case str.str i j =>
    by_cases h : i.length + j.length ≤ 16777216
    · rw [show addD (.str i) (.str j) = if i.length + j.length ≤ 16777216 then some (.sh (.str (i ++ j))) else none from rfl, if_pos h] at e
      cases e
      exact .inr (.inl ⟨i, j, a.str, b.str, sizeL h, q _ _ .str⟩)
    · rw [show addD (.str i) (.str j) = if i.length + j.length ≤ 16777216 then some (.sh (.str (i ++ j))) else none from rfl, if_neg h] at e
      cases e
  case list.list i j =>
    by_cases h : i.length + j.length ≤ 16777216
    · rw [show addD (.list i) (.list j) = if i.length + j.length ≤ 16777216 then some (.ol (i ++ j)) else none from rfl, if_pos h] at e
      cases e
      obtain ⟨p, vs, rfl, hp, hv⟩ := a.list sm
      obtain ⟨p', vs', rfl, hp', hv'⟩ := b.list sm
      exact .inr (.inr (.inl ⟨p, p', vs, vs', rfl, rfl, hp, hp', sizeL (by rw [hv.length, hv'.length]; exact h), fun l hl => q _ _ (.newL hl (hv.append hv'))⟩))
    · rw [show addD (.list i) (.list j) = if i.length + j.length ≤ 16777216 then some (.ol (i ++ j)) else none from rfl, if_neg h] at e
      cases e
  case tuple.tuple i j =>
    by_cases h : i.length + j.length ≤ 16777216
    · rw [show addD (.tuple i) (.tuple j) = if i.length + j.length ≤ 16777216 then some (.sh (.tuple (i ++ j))) else none from rfl, if_pos h] at e
      cases e
      have a0 := a
      have b0 := b
      obtain ⟨p, vs, rfl, hp, hv⟩ := a.tuple sm
      obtain ⟨p', vs', rfl, hp', hv'⟩ := b.tuple sm
      refine .inr (.inr (.inr ⟨p, p', vs, vs', rfl, rfl, hp, hp', sizeL (by rw [hv.length, hv'.length]; exact h), fun z => ?_, fun _ z => ?_, fun _ _ l hl => q _ _ (.newT sm hl (hv.append hv'))⟩))
      · subst z; cases hv
        rcases b0 with b0 | ⟨_, _, _, _, z, _⟩
        · exact q _ _ (.now (by simpa using b0))
        · cases z
      · subst z; cases hv'
        rcases a0 with a0 | ⟨_, _, _, _, z, _⟩
        · exact q _ _ (.now (by simpa using a0))
        · cases z
    · rw [show addD (.tuple i) (.tuple j) = if i.length + j.length ≤ 16777216 then some (.sh (.tuple (i ++ j))) else none from rfl, if_neg h] at e
      cases e
def rSubI : R2 := rI0 fun i j => .int (i - j)
theorem so_sub {K : PySem.W.Frag} : SemOp K rSubI subD := by
  intro G H x y dx dy s Q sm a b e q
  cases dx <;> cases dy <;> first | (cases e; done) | skip
  cases e
  exact ⟨_, _, a.int, b.int, q _ _ .int⟩
def rMulAll (K : PySem.W.Frag) : R2 := fun x y H Q => rI (fun i j => mulOk i j = true) (fun i j => .int (i * j)) x y H Q ∨ rRep x y H Q ∨ rRepT K x y H Q
theorem op_mulM {X : Cx} : OpR X (binaryOp .Mult) (rI (fun i j => mulOk i j = true) fun i j => .int (i * j)) := opI fun _ _ _ _ _ _ _ hc q => mul_int q (mulOk_iff.mp hc)
theorem or_mul {X : Cx} : OpR X (binaryOp .Mult) (rMulAll X.K) := op_mulM.or (op_rep.or op_repT)
theorem so_mul {K : PySem.W.Frag} : SemOp K (rMulAll K) mulD := by
  intro G H x y dx dy s Q sm a b e q
  cases dx <;> cases dy <;> first | (cases e; done) | skip
  case int.int i j =>
    by_cases h : mulOk i j = true
    · rw [show mulD (.int i) (.int j) = if mulOk i j = true then some (.sh (.int (i * j))) else none from rfl, if_pos h] at e
      cases e
      exact .inl ⟨i, j, a.int, b.int, h, q _ _ .int⟩
    · rw [show mulD (.int i) (.int j) = if mulOk i j = true then some (.sh (.int (i * j))) else none from rfl, if_neg h] at e
      cases e
  case list.int i k =>
    by_cases h : -(2 ^ 63) ≤ k ∧ k < 2 ^ 63 ∧ i.length * k.toNat ≤ 16777216
    · rw [show mulD (.list i) (.int k) = if -(2 ^ 63) ≤ k ∧ k < 2 ^ 63 ∧ i.length * k.toNat ≤ 16777216 then some (.ol (List.replicate k.toNat i).flatten) else none from rfl, if_pos h] at e
      cases e
      obtain ⟨p, vs, rfl, hp, hv⟩ := a.list sm
      exact .inr (.inl ⟨p, k, vs, rfl, b.int, hp, h.1, h.2.1, sizeL (by rw [hv.length]; exact h.2.2), fun l hl => q _ _ (.newL hl (hv.rep _))⟩)
    · rw [show mulD (.list i) (.int k) = if -(2 ^ 63) ≤ k ∧ k < 2 ^ 63 ∧ i.length * k.toNat ≤ 16777216 then some (.ol (List.replicate k.toNat i).flatten) else none from rfl, if_neg h] at e
      cases e
  case tuple.int i k =>
    by_cases h : i ≠ [] ∧ 2 ≤ k ∧ k ≤ 1000 ∧ i.length ≤ 1000
    · rw [show mulD (.tuple i) (.int k) = if i ≠ [] ∧ 2 ≤ k ∧ k ≤ 1000 ∧ i.length ≤ 1000 then some (.sh (.tuple (List.replicate k.toNat i).flatten)) else none from rfl, if_pos h] at e
      cases e
      obtain ⟨p, vs, rfl, hp, hv⟩ := a.tuple sm
      refine .inr (.inr ⟨p, k, vs, rfl, b.int, hp, fun z => ?_, h.2.1, h.2.2.1, by rw [hv.length]; exact h.2.2.2, fun l hl => q _ _ (.newT sm hl (hv.rep _))⟩)
      subst z; cases hv; exact h.1 rfl
    · rw [show mulD (.tuple i) (.int k) = if i ≠ [] ∧ 2 ≤ k ∧ k ≤ 1000 ∧ i.length ≤ 1000 then some (.sh (.tuple (List.replicate k.toNat i).flatten)) else none from rfl, if_neg h] at e
      cases e
def rDivI : R2 := rI (fun i j => divOk i j = true) fun i j => .int (i.fdiv j)
theorem or_div {X : Cx} : OpR X (binaryOp .FloorDiv) rDivI := opI fun i j _ _ _ _ _ hc q => by
  have h : decide (j ≠ 0) = true ∧ (!(Builtin.divisionGoesByPylong i j)) = true := (Bool.and_eq_true_iff.mp hc)
  exact floordiv_int (of_decide_eq_true h.1) q (.inl (by simpa using h.2))
theorem so_div {K : PySem.W.Frag} : SemOp K rDivI divD := by
  intro G H x y dx dy s Q sm a b e q
  cases dx <;> cases dy <;> first | (cases e; done) | skip
  case int.int i j =>
    by_cases h : divOk i j = true
    · rw [show divD (.int i) (.int j) = if divOk i j = true then some (.sh (.int (i.fdiv j))) else none from rfl, if_pos h] at e
      cases e
      exact ⟨i, j, a.int, b.int, h, q _ _ .int⟩
    · rw [show divD (.int i) (.int j) = if divOk i j = true then some (.sh (.int (i.fdiv j))) else none from rfl, if_neg h] at e
      cases e
def rModI : R2 := rI (fun _ j => 0 < j) fun i j => .int (i % j)
theorem so_mod {K : PySem.W.Frag} : SemOp K rModI modD := by
  intro G H x y dx dy s Q sm a b e q
  cases dx <;> cases dy <;> first | (cases e; done) | skip
  case int.int i j =>
    by_cases h : 0 < j
    · rw [show modD (.int i) (.int j) = if 0 < j then some (.sh (.int (i % j))) else none from rfl, if_pos h] at e
      cases e
      exact ⟨i, j, a.int, b.int, h, q _ _ .int⟩
    · rw [show modD (.int i) (.int j) = if 0 < j then some (.sh (.int (i % j))) else none from rfl, if_neg h] at e
      cases e
def rPowI : R2 := rI CPow fun i j => .int (i ^ j.toNat)
theorem so_pow {K : PySem.W.Frag} : SemOp K rPowI powD := by
  intro G H x y dx dy s Q sm a b e q
  cases dx <;> cases dy <;> first | (cases e; done) | skip
  case int.int i j =>
    by_cases h : 0 ≤ j ∧ j ≤ 1000000 ∧ i.natAbs < 2 ^ 64
    · rw [show powD (.int i) (.int j) = if 0 ≤ j ∧ j ≤ 1000000 ∧ i.natAbs < 2 ^ 64 then some (.sh (.int (i ^ j.toNat))) else none from rfl, if_pos h] at e
      cases e
      exact ⟨i, j, a.int, b.int, h, q _ _ .int⟩
    · rw [show powD (.int i) (.int j) = if 0 ≤ j ∧ j ≤ 1000000 ∧ i.natAbs < 2 ^ 64 then some (.sh (.int (i ^ j.toNat))) else none from rfl, if_neg h] at e
      cases e
section
variable {X : Cx} {a b c : Expr} {fa fb fc : EvF} {pos : Pos}
theorem se_bin {op : Operator} {r : R2} {o : D → D → Option Sl} (ho : OpR X (binaryOp op) r) (so : SemOp X.K r o) (ha : SE X a fa) (hb : SE X b fb) : SE X (.BinOp a op b pos) (fOp o fa fb) := by
  obtain ⟨t, p, s⟩ := ha.ex
  obtain ⟨t', p', s'⟩ := hb.ex
  exact ⟨_, pe_op ho p p', sem_op so s s'⟩
theorem se_add (ha : SE X a fa) (hb : SE X b fb) : SE X (.BinOp a .Add b pos) (fOp addD fa fb) := se_bin or_add so_add ha hb
theorem se_sub (ha : SE X a fa) (hb : SE X b fb) : SE X (.BinOp a .Sub b pos) (fOp subD fa fb) := se_bin op_sub so_sub ha hb
theorem se_mul (ha : SE X a fa) (hb : SE X b fb) : SE X (.BinOp a .Mult b pos) (fOp mulD fa fb) := se_bin or_mul so_mul ha hb
theorem se_div (ha : SE X a fa) (hb : SE X b fb) : SE X (.BinOp a .FloorDiv b pos) (fOp divD fa fb) := se_bin or_div so_div ha hb
theorem se_mod (ha : SE X a fa) (hb : SE X b fb) : SE X (.BinOp a .Mod b pos) (fOp modD fa fb) := se_bin op_mod so_mod ha hb
theorem se_pow (ha : SE X a fa) (hb : SE X b fb) : SE X (.BinOp a .Pow b pos) (fOp powD fa fb) := se_bin op_pow so_pow ha hb
def negD : D → Option Sl
  | .int i => some (.sh (.int (-i)))
  | _ => none
theorem se_neg (ha : SE X a fa) : SE X (.UnaryOp .USub a pos) (fOp1 negD fa) := by
  obtain ⟨t, p, s⟩ := ha.ex
  refine ⟨_, pe_un un_neg p, sem_un (r := rU fun i => .int (-i)) (fun G H x dx s Q sm d e q => ?_) s⟩
  cases dx <;> first | (cases e; done) | skip
  cases e
  exact ⟨_, d.int, q _ _ .int⟩

/-! ### comparisons -/
def shapedD (d : D) : Bool := SeqAt.shaped d
def eqD (a b : D) : Option Sl := if shapedD a = true ∧ shapedD b = true then some (.sh (.bool (PyData.eqv a b))) else none
def neD (a b : D) : Option Sl := if shapedD a = true ∧ shapedD b = true then some (.sh (.bool (!PyData.eqv a b))) else none
def cmpD (p : Int → Int → Bool) : D → D → Option Sl
  | .int i, .int j => some (.sh (.bool (p i j)))
  | _, _ => none
abbrev ltD := cmpD fun i j => decide (i < j)
abbrev leD := cmpD fun i j => decide (i ≤ j)
abbrev gtD := cmpD fun i j => decide (j < i)
abbrev geD := cmpD fun i j => decide (j ≤ i)
def isNone : D → Bool
  | .none => true
  | _ => false
def isND (a b : D) : Option Sl := if isNone b = true then some (.sh (.bool (isNone a))) else none
def notND (a b : D) : Option Sl := if isNone b = true then some (.sh (.bool (!isNone a))) else none
theorem so_eq {K : PySem.W.Frag} : SemOp K (rEqD K) eqD := by
  intro G H x y dx dy s Q sm a b e q
  unfold eqD at e
  split at e
  · rename_i h
    cases e
    exact ⟨dx, dy, Dt.deep _ _ (a.dp sm), Dt.deep _ _ (b.dp sm), h.1, h.2, q _ _ .bl⟩
  · cases e
theorem so_ne {K : PySem.W.Frag} : SemOp K (rNeD K) neD := by
  intro G H x y dx dy s Q sm a b e q
  unfold neD at e
  split at e
  · rename_i h
    cases e
    exact ⟨dx, dy, Dt.deep _ _ (a.dp sm), Dt.deep _ _ (b.dp sm), h.1, h.2, q _ _ .bl⟩
  · cases e
theorem so_cmp {K : PySem.W.Frag} {p : Int → Int → Bool} : SemOp K (rI0 fun i j => .bl (p i j)) (cmpD p) := by
  intro G H x y dx dy s Q sm a b e q
  cases dx <;> cases dy <;> first | (cases e; done) | skip
  cases e
  exact ⟨_, _, a.int, b.int, q _ _ .bl⟩
theorem isNone_eq {K : PySem.W.Frag} {G H : Hp} {x : V} {d : D} (h : DpT K G H x d) : decide (x = .non) = isNone d := by
  rcases h with h | ⟨_, _, _, rfl, rfl, _⟩
  · cases h <;> rfl
  · rfl
theorem so_isN {K : PySem.W.Frag} : SemOp K (fun x y H Q => y = .non ∧ Q (.bl (decide (x = .non))) H) isND := by
  intro G H x y dx dy s Q sm a b e q
  cases dy <;> first | (cases e; done) | skip
  cases e
  exact ⟨b.none, by rw [isNone_eq a]; exact q _ _ .bl⟩
theorem so_notN {K : PySem.W.Frag} : SemOp K (fun x y H Q => y = .non ∧ Q (.bl (!decide (x = .non))) H) notND := by
  intro G H x y dx dy s Q sm a b e q
  cases dy <;> first | (cases e; done) | skip
  cases e
  exact ⟨b.none, by rw [isNone_eq a]; exact q _ _ .bl⟩
/-- in a list or tuple of flat things -/
def flatD : D → Bool
  | .none => true
  | .bool _ => true
  | .int _ => true
  | .str _ => true
  | _ => false
def inL (a : D) (ds : List D) : Bool := ds.any fun z => PyData.eqv z a
def inD (neg : Bool) (a : D) : D → Option Sl
  | .list ds => if flatD a = true ∧ ds.all flatD = true then some (.sh (.bool (if neg then !inL a ds else inL a ds))) else none
  | .tuple ds => if flatD a = true ∧ ds.all flatD = true then some (.sh (.bool (if neg then !inL a ds else inL a ds))) else none
  | _ => none
theorem flat_V {K : PySem.W.Frag} {G : Hp} {x : V} {d : D} (h : Dt K G x d) (f : flatD d = true) : flatV x = true := by
  cases h <;> first | rfl | (cases f)
theorem eq_V {K : PySem.W.Frag} {G : Hp} {x y : V} {d e : D} (h : Dt K G x d) (h' : Dt K G y e) (f : flatD d = true) (f' : flatD e = true) : eqV y x = PyData.eqv e d := by
  cases h <;> first | (cases f; done) | skip
  all_goals (cases h' <;> first | (cases f'; done) | rfl | (simp [eqV, PyData.eqv]; done) | skip)
theorem all_flat {K : PySem.W.Frag} {G : Hp} : ∀ {vs : List V} {ds : List D}, DtAll K G vs ds → ds.all flatD = true → vs.all flatV = true
  | _, _, .nil, _ => rfl
  | _, _, .cons r t, h => by
    rw [List.all_cons, Bool.and_eq_true] at h ⊢
    exact ⟨flat_V r h.1, all_flat t h.2⟩
theorem in_eq {K : PySem.W.Frag} {G : Hp} {x : V} {d : D} (h : Dt K G x d) (f : flatD d = true) : ∀ {vs : List V} {ds : List D}, DtAll K G vs ds → ds.all flatD = true → inV x vs = inL d ds
  | _, _, .nil, _ => rfl
  | _, _, .cons r t, h' => by
    rw [List.all_cons, Bool.and_eq_true] at h'
    unfold inV inL
    rw [List.any_cons, List.any_cons, eq_V h r f h'.1]
    have := in_eq h f t h'.2
    unfold inV inL at this
    rw [this]
theorem flat_sh {K : PySem.W.Frag} {G H : Hp} {x : V} {d : D} (h : DpT K G H x d) (f : flatD d = true) : Dt K G x d := by
  rcases h with h | ⟨_, _, _, _, rfl, _⟩
  · exact h
  · cases f
theorem so_in {K : PySem.W.Frag} {neg : Bool} : SemOp K (rIn K neg) (inD neg) := by
  intro G H x y dx dy s Q sm a b e q
  cases dy <;> first | (cases e; done) | skip
  case list ds =>
    rw [show inD neg dx (.list ds) = if flatD dx = true ∧ ds.all flatD = true then some (.sh (.bool (if neg then !inL dx ds else inL dx ds))) else none from rfl] at e
    split at e
    · rename_i h
      cases e
      obtain ⟨p, vs, rfl, hp, hv⟩ := b.list sm
      have ad := flat_sh a h.1
      refine ⟨p, vs, rfl, .inl (.of hp), flat_V ad h.1, all_flat hv h.2, ?_⟩
      rw [in_eq ad h.1 hv h.2]
      exact q _ _ .bl
    · cases e
  case tuple ds =>
    rw [show inD neg dx (.tuple ds) = if flatD dx = true ∧ ds.all flatD = true then some (.sh (.bool (if neg then !inL dx ds else inL dx ds))) else none from rfl] at e
    split at e
    · rename_i h
      cases e
      obtain ⟨p, vs, rfl, hp, hv⟩ := b.tuple sm
      have ad := flat_sh a h.1
      refine ⟨p, vs, rfl, .inr hp, flat_V ad h.1, all_flat hv h.2, ?_⟩
      rw [in_eq ad h.1 hv h.2]
      exact q _ _ .bl
    · cases e
theorem se_cmp {op : CmpOp} {r : R2} {o : D → D → Option Sl} (ho : OpR X (compareOp op) r) (so : SemOp X.K r o) (ha : SE X a fa) (hb : SE X b fb) (hm : behindInMarks op b = false) : SE X (.Compare a [op] [b] pos) (fOp o fa fb) := by
  obtain ⟨t, p, s⟩ := ha.ex
  obtain ⟨t', p', s'⟩ := hb.ex
  exact ⟨_, pe_cmpR ho p p' hm, sem_op so s s'⟩

/-! ### tests -/
def fTst (f : EvF) : EvT := fun env => do
  let (r, e1) ← f env
  match r with
  | .sh (.bool b) => .ok (b, e1)
  | _ => .bad
theorem sem_tst {K : PySem.W.Frag} {mg : Str → Option Value} {t : TE} {f : EvF} (h : SemE K mg t f) : SemT K mg (tTest t) (fTst f) := by
  intro σ H env l b env' h1 e Q q
  unfold fTst at e
  obtain ⟨⟨r, e1⟩, ea, e⟩ := Res.bind_ok e
  refine h σ H env l r e1 h1 ea _ fun v H1 h2 => ?_
  dsimp only at e
  split at e
  · rename_i b'
    cases e
    obtain ⟨G, os, rp⟩ := h2.rep
    obtain ⟨v', e', d⟩ := rp.shOf List.mem_cons_self
    cases e'
    cases d
    exact ⟨_, rfl, q H1 h2.drop⟩
  · cases e
theorem st_cmp {op : CmpOp} {r : R2} {o : D → D → Option Sl} (ho : OpR X (compareOp op) r) (so : SemOp X.K r o) (ha : SE X a fa) (hb : SE X b fb) (hm : behindInMarks op b = false) : ST X (.Compare a [op] [b] pos) (fTst (fOp o fa fb)) := by
  obtain ⟨t, p, s⟩ := ha.ex
  obtain ⟨t', p', s'⟩ := hb.ex
  exact ⟨_, pt_cmpR ho p p' hm, sem_tst (sem_op so s s')⟩
/-- an expression whose value is a truth -/
theorem st_val (h : SE X a fa) (he : ∀ whole, isTrue a X.env whole = (do let v ← whole; standAt a.pos; holding [v] (truthy v)) := by intro _; rfl) : ST X a (fTst fa) := by
  obtain ⟨t, p, s⟩ := h.ex
  exact ⟨_, pt_val p he, sem_tst s⟩
def fNotT (f : EvT) : EvT := fun env => do
  let (b, e1) ← f env
  .ok (!b, e1)
def fAndT (f g : EvT) : EvT := fun env => do
  let (b, e1) ← f env
  if b = true then g e1 else .ok (false, e1)
def fOrT (f g : EvT) : EvT := fun env => do
  let (b, e1) ← f env
  if b = true then .ok (true, e1) else g e1
variable {tA tB' : EvT} {rest : List Expr}
theorem st_not (h : ST X a tA) : ST X (.UnaryOp .Not a pos) (fNotT tA) := by
  obtain ⟨t, p, s⟩ := h.ex
  refine ⟨_, pt_not p, ?_⟩
  intro σ H env l b env' h1 e Q q
  obtain ⟨⟨r, e1⟩, ea, e⟩ := Res.bind_ok e
  cases e
  exact s σ H env l r _ h1 ea _ fun H1 h2 => q H1 h2
theorem st_of (h : SW X a tA) : ST X a tA := by
  obtain ⟨t, p, s⟩ := h.ex
  exact ⟨_, p.pt, s⟩
theorem sw_and1 (h : ST X a tA) : SW X (.BoolOp .And [a] pos) tA := by
  obtain ⟨t, p, s⟩ := h.ex
  exact ⟨_, pw_and1 p, s⟩
theorem sw_or1 (h : ST X a tA) : SW X (.BoolOp .Or [a] pos) tA := by
  obtain ⟨t, p, s⟩ := h.ex
  exact ⟨_, pw_or1 p, s⟩
theorem sw_and (h : ST X a tA) (h2 : SW X (.BoolOp .And (b :: rest) pos) tB') : SW X (.BoolOp .And (a :: b :: rest) pos) (fAndT tA tB') := by
  obtain ⟨t, p, s⟩ := h.ex
  obtain ⟨t', p', s'⟩ := h2.ex
  refine ⟨_, pw_and p p', ?_⟩
  intro σ H env l b env' h1 e Q q
  obtain ⟨⟨r, e1⟩, ea, e⟩ := Res.bind_ok e
  refine s σ H env l r _ h1 ea _ fun H1 h2 => ?_
  cases r with
  | true => exact iteT (s' σ H1 e1 l b env' h2 e Q q)
  | false => cases e; exact iteF (q H1 h2)
theorem sw_or (h : ST X a tA) (h2 : SW X (.BoolOp .Or (b :: rest) pos) tB') : SW X (.BoolOp .Or (a :: b :: rest) pos) (fOrT tA tB') := by
  obtain ⟨t, p, s⟩ := h.ex
  obtain ⟨t', p', s'⟩ := h2.ex
  refine ⟨_, pw_or p p', ?_⟩
  intro σ H env l b env' h1 e Q q
  obtain ⟨⟨r, e1⟩, ea, e⟩ := Res.bind_ok e
  refine s σ H env l r _ h1 ea _ fun H1 h2 => ?_
  cases r with
  | true => cases e; exact iteT (q H1 h2)
  | false => exact iteF (s' σ H1 e1 l b env' h2 e Q q)
/-! ### .. as values -/
def fAndV (f g : EvF) : EvF := fun env => do
  let (b, e1) ← fTst f env
  if b = true then g e1 else .ok (.sh (.bool false), e1)
def fOrV (f g : EvF) : EvF := fun env => do
  let (b, e1) ← fTst f env
  if b = true then .ok (.sh (.bool true), e1) else g e1
def fNotV (f : EvF) : EvF := fun env => do
  let (b, e1) ← fTst f env
  .ok (.sh (.bool (!b)), e1)
theorem Hold.shV {K : PySem.W.Frag} {mg : Str → Option Value} {H : Hp} {σ : L2.St} {env : Lo} {l : List Item} {v : V} {d : D} (h : Hold K mg H σ env l) (hd : ∀ G, Dt K G v d) : HoldV K mg H σ env l v (.sh d) := by
  obtain ⟨G, os, rp⟩ := h.rep
  exact ⟨h.len, ⟨G, os, rp.sh (hd G)⟩, fun _ z => by cases z⟩
theorem se_one {op} (h : SE X a fa) : SE X (.BoolOp op [a] pos) fa := by
  obtain ⟨t, p, s⟩ := h.ex
  exact ⟨_, pe_one p, s⟩
theorem se_and (h : SE X a fa) (h2 : SE X (.BoolOp .And (b :: rest) pos) fb) : SE X (.BoolOp .And (a :: b :: rest) pos) (fAndV fa fb) := by
  obtain ⟨t, p, s⟩ := h.ex
  obtain ⟨t', p', s'⟩ := h2.ex
  refine ⟨_, pe_and p p', ?_⟩
  intro σ H env l r env' h1 e Q q
  obtain ⟨⟨c, e1⟩, ea, e⟩ := Res.bind_ok e
  refine sem_tst s σ H env l c _ h1 ea (fun c H1 => if c = true then t' σ H1 Q else Q (.bl false) H1) fun H1 h2 => ?_
  cases c with
  | true => exact iteT (s' σ H1 e1 l r env' h2 e Q q)
  | false => cases e; exact iteF (q _ H1 (h2.shV fun _ => .bl _))
theorem se_or (h : SE X a fa) (h2 : SE X (.BoolOp .Or (b :: rest) pos) fb) : SE X (.BoolOp .Or (a :: b :: rest) pos) (fOrV fa fb) := by
  obtain ⟨t, p, s⟩ := h.ex
  obtain ⟨t', p', s'⟩ := h2.ex
  refine ⟨_, pe_or p p', ?_⟩
  intro σ H env l r env' h1 e Q q
  obtain ⟨⟨c, e1⟩, ea, e⟩ := Res.bind_ok e
  refine sem_tst s σ H env l c _ h1 ea (fun c H1 => if c = true then Q (.bl true) H1 else t' σ H1 Q) fun H1 h2 => ?_
  cases c with
  | true => cases e; exact iteT (q _ H1 (h2.shV fun _ => .bl _))
  | false => exact iteF (s' σ H1 e1 l r env' h2 e Q q)
theorem se_not (h : SE X a fa) : SE X (.UnaryOp .Not a pos) (fNotV fa) := by
  obtain ⟨t, p, s⟩ := h.ex
  refine ⟨_, pe_not p, ?_⟩
  intro σ H env l r env' h1 e Q q
  obtain ⟨⟨c, e1⟩, ea, e⟩ := Res.bind_ok e
  cases e
  exact sem_tst s σ H env l c _ h1 ea (fun c H1 => Q (.bl (!c)) H1) fun H1 h2 => q _ H1 (h2.shV fun _ => .bl _)
def fIf (ft : EvT) (fa fb : EvF) : EvF := fun env => do
  let (b, e1) ← ft env
  if b = true then fa e1 else fb e1
theorem se_if (hc : ST X c tA) (h : SE X a fa) (h2 : SE X b fb) : SE X (.IfExp c a b pos) (fIf tA fa fb) := by
  obtain ⟨t0, p0, s0⟩ := hc.ex
  obtain ⟨t, p, s⟩ := h.ex
  obtain ⟨t', p', s'⟩ := h2.ex
  refine ⟨_, pe_ifExp p0 p p', ?_⟩
  intro σ H env l r env' h1 e Q q
  obtain ⟨⟨k, e1⟩, ea, e⟩ := Res.bind_ok e
  refine s0 σ H env l k _ h1 ea _ fun H1 h2 => ?_
  cases k with
  | true => exact iteT (s σ H1 e1 l r env' h2 e Q q)
  | false => exact iteF (s' σ H1 e1 l r env' h2 e Q q)
end
end FL

/-! FL4: subscripts, slices, displays, calls -/
namespace FL
open PySem PySem.Spec PyProof.Rows L2

/-! ### subscripts -/
def ixD : D → D → Option Sl
  | .list ds, .int i => (atI ds i).map .sh
  | .tuple ds, .int i => (atI ds i).map .sh
  | .str x, .int i => if x.length ≤ 16777216 then (atI x.cps.toList i).map fun c => .sh (.str ⟨#[c]⟩) else none
  | _, _ => none
theorem at_all {K : PySem.W.Frag} {G : Hp} {vs : List V} {ds : List D} {i : Int} {d : D} (h : DtAll K G vs ds) (e : atI ds i = some d) : ∃ v, atI vs i = some v ∧ Dt K G v d := by
  unfold atI at e ⊢
  rw [h.length]
  cases q : ixN ds.length i with
  | none => rw [q] at e; cases e
  | some j =>
    rw [q] at e
    obtain ⟨v, e1, e2⟩ := h.get (show ds[j]? = some d from e)
    exact ⟨v, e1, e2⟩
theorem so_ix {K : PySem.W.Frag} : SemOp K (rIx K) ixD := by
  intro G H x y dx dy s Q sm a b e q
  cases dx <;> cases dy <;> first | (cases e; done) | skip
  case list.int ds i =>
    rw [show ixD (.list ds) (.int i) = (atI ds i).map .sh from rfl] at e
    cases ea : atI ds i with
    | none => rw [ea] at e; cases e
    | some d =>
      rw [ea] at e; cases e
      obtain ⟨p, vs, rfl, hp, hv⟩ := a.list sm
      obtain ⟨v, e1, e2⟩ := at_all hv ea
      exact .inl ⟨p, vs, i, v, rfl, b.int, .of hp, e1, q _ _ (.now e2)⟩
  case tuple.int ds i =>
    rw [show ixD (.tuple ds) (.int i) = (atI ds i).map .sh from rfl] at e
    cases ea : atI ds i with
    | none => rw [ea] at e; cases e
    | some d =>
      rw [ea] at e; cases e
      obtain ⟨p, vs, rfl, hp, hv⟩ := a.tuple sm
      obtain ⟨v, e1, e2⟩ := at_all hv ea
      exact .inr (.inl ⟨p, vs, i, v, rfl, b.int, hp, e1, q _ _ (.now e2)⟩)
  case str.int z i =>
    rw [show ixD (.str z) (.int i) = if z.length ≤ 16777216 then (atI z.cps.toList i).map fun c => Sl.sh (.str ⟨#[c]⟩) else none from rfl] at e
    split at e
    · rename_i h
      cases ea : atI z.cps.toList i with
      | none => rw [ea] at e; cases e
      | some c =>
        rw [ea] at e; cases e
        exact .inr (.inr ⟨z, i, c, a.str, b.int, sizeL h, ea, q _ _ .str⟩)
    · cases e
section
variable {X : Cx} {a b c : Expr} {fa fb fc : EvF} {pos : Pos}
theorem se_ix (ha : SE X a fa) (hb : SE X b fb) (hs : PlainIx b := by exact fun _ _ => rfl) : SE X (.Subscript a b pos) (fOp ixD fa fb) := by
  obtain ⟨t, p, s⟩ := ha.ex
  obtain ⟨t', p', s'⟩ := hb.ex
  exact ⟨_, pe_ix ix_seq p p' hs, sem_op so_ix s s'⟩
end

/-! ### slices -/
def cutG {α : Type} (xs : List α) (lo hi : Option Int) : List α := (xs.drop (HT.sIx xs.length 0 lo)).take (HT.sIx xs.length xs.length hi - HT.sIx xs.length 0 lo)
def sliceD : D → Option Int → Option Int → Option Sl
  | .list ds, lo, hi => some (.ol (cutG ds lo hi))
  | .tuple ds, lo, hi => some (.sh (.tuple (cutG ds lo hi)))
  | .str x, lo, hi => if x.length ≤ 16777216 then some (.sh (.str (cutS x lo hi))) else none
  | _, _, _ => none
abbrev EvO := Lo → Res (Option Int × Lo)
def SemO (K : PySem.W.Frag) (mg : Str → Option Value) (t : TO) (f : EvO) : Prop :=
  ∀ (σ : L2.St) (H : Hp) (env : Lo) (l : List Item) (o : Option Int) (env' : Lo), Hold K mg H σ env l → f env = .ok (o, env') → ∀ Q : Option Int → Hp → Prop, (∀ H', Hold K mg H' σ env' l → Q o H') → t σ H Q
structure SO (X : Cx) (e : Option Expr) (f : EvO) : Prop where
  ex : ∃ t, PO X e t ∧ SemO X.K X.mg t f
def fNoPart : EvO := fun env => .ok (none, env)
def fPart (fa : EvF) : EvO := fun env => do
  let (r, e1) ← fa env
  match r with
  | .sh (.int i) => .ok (some i, e1)
  | _ => .bad
section
variable {X : Cx} {a b c : Expr} {fa fb fc : EvF} {pos p2 : Pos} {lo hi : Option Expr} {fl fh : EvO}
theorem so_none : SO X none fNoPart := ⟨_, po_none, fun σ H env l o env' h e Q q => by cases e; exact q H h⟩
theorem so_some (ha : SE X a fa) : SO X (some a) (fPart fa) := by
  obtain ⟨t, p, s⟩ := ha.ex
  refine ⟨_, po_some p, ?_⟩
  intro σ H env l o env' h e Q q
  unfold fPart at e
  obtain ⟨⟨r, e1⟩, ea, e⟩ := Res.bind_ok e
  refine s σ H env l r e1 h ea _ fun v H1 h2 => ?_
  dsimp only at e
  split at e
  · rename_i i
    cases e
    obtain ⟨G, os, rp⟩ := h2.rep
    obtain ⟨v', e', d⟩ := rp.shOf List.mem_cons_self
    cases e'
    cases d
    exact ⟨i, rfl, q H1 h2.drop⟩
  · cases e
def fSlice (fa : EvF) (fl fh : EvO) : EvF := fun env => do
  let (ra, e1) ← fa env
  let (lo, e2) ← fl e1
  let (hi, e3) ← fh e2
  let a ← Res.ofO (view e3 ra)
  let s ← Res.ofO (sliceD a lo hi)
  .ok (s, e3)
def rSlAll (K : PySem.W.Frag) : V → Option Int → Option Int → Hp → VK → Prop := fun x lo hi H Q => rSlL K x lo hi H Q ∨ rSlA K x lo hi H Q ∨ rSlS x lo hi H Q
theorem DtAll.cut {K : PySem.W.Frag} {G : Hp} {vs : List V} {ds : List D} (h : DtAll K G vs ds) (lo hi : Option Int) : DtAll K G (cutV vs lo hi) (cutG ds lo hi) := by
  unfold cutV cutG
  rw [h.length]
  exact (h.drop _).take _
theorem sem_slice {K : PySem.W.Frag} {mg : Str → Option Value} {ta : TE} {tl th : TO} (ha : SemE K mg ta fa) (hl : SemO K mg tl fl) (hh : SemO K mg th fh) : SemE K mg (tSl (rSlAll K) ta tl th) (fSlice fa fl fh) := by
  intro σ H env l s env' h e Q q
  unfold fSlice at e
  obtain ⟨⟨ra, e1⟩, ea, e⟩ := Res.bind_ok e
  obtain ⟨⟨lo, e2⟩, el, e⟩ := Res.bind_ok e
  obtain ⟨⟨hi, e3⟩, eh, e⟩ := Res.bind_ok e
  obtain ⟨a, va, e⟩ := Res.bind_ok e
  obtain ⟨s', es, e⟩ := Res.bind_ok e
  cases e
  replace va := Res.ofO_ok va
  replace es := Res.ofO_ok es
  refine ha σ H env l ra e1 h ea _ fun x H1 h1 => ?_
  refine hl σ H1 e1 _ lo e2 h1.hold el _ fun H2 h2 => ?_
  refine hh σ H2 e2 _ hi _ h2 eh _ fun H3 h3 => ?_
  have h3 := h3.toV h1.vw
  obtain ⟨G, os, rp⟩ := h3.rep
  have dx : DpT K G H3 x a := rp.view (σ := σ) List.mem_cons_self (fun it hi => List.mem_cons_of_mem _ (List.mem_append_left _ hi)) h3.vw va
  have fin : ∀ v H4, Got K G H3 v s H4 → Q v H4 := fun v H4 g => q v H4 ⟨h3.len, ((rp.got g).perm (.swap _ _ _)).tail, g.novw⟩
  cases a <;> first | (cases es; done) | skip
  case list ds =>
    cases es
    obtain ⟨p, vs, rfl, hp, hv⟩ := dx.list rp.same
    exact .inl ⟨p, vs, rfl, .of hp, fun l' hl' => fin _ _ (.newL hl' (hv.cut _ _))⟩
  case tuple ds =>
    cases es
    have dx0 := dx
    obtain ⟨p, vs, rfl, hp, hv⟩ := dx.tuple rp.same
    refine .inr (.inl ⟨p, vs, rfl, hp, fun z => ?_, fun _ l' hl' => fin _ _ (.newT rp.same hl' (hv.cut _ _))⟩)
    refine fin _ _ (.now ?_)
    have e : cutG ds lo hi = ds := by
      unfold cutG
      rw [← hv.length, z.1, z.2]
      rw [List.drop_zero, Nat.sub_zero, List.take_of_length_le (Nat.le_of_eq hv.length.symm)]
    rw [e]
    rcases dx0 with dx0 | ⟨_, _, _, _, z, _⟩
    · exact dx0
    · cases z
  case str z =>
    rw [show sliceD (.str z) lo hi = if z.length ≤ 16777216 then some (Sl.sh (.str (cutS z lo hi))) else none from rfl] at es
    split at es
    · rename_i hz
      cases es
      exact .inr (.inr ⟨z, dx.str, sizeL hz, fin _ _ .str⟩)
    · cases es
theorem se_slice (ha : SE X a fa) (hl : SO X lo fl) (hh : SO X hi fh) : SE X (.Subscript a (.Slice lo hi none p2) pos) (fSlice fa fl fh) := by
  obtain ⟨t, p, s⟩ := ha.ex
  obtain ⟨t1, p1, s1⟩ := hl.ex
  obtain ⟨t2, p2, s2⟩ := hh.ex
  exact ⟨_, pe_slice (sl_list.or (sl_tupA.or sl_str)) p p1 p2, sem_slice s s1 s2⟩
end

/-! ### what is shared from now on -/
def freezeR (env : Lo) : Sl → Option (D × Lo)
  | .sh d => some (d, env)
  | .ol ds => some (.list ds, env)
  | .vw i => match env[i]? with
    | some (.ol ds) => some (.list ds, env.set i (.sh (.list ds)))
    | _ => none
  | _ => none
section
variable {K : PySem.W.Frag} {mg : Str → Option Value} {H : Hp} {σ : L2.St} {env env' : Lo} {l : List Item} {v : V} {r : Sl} {d : D}
theorem HoldV.freeze (h : HoldV K mg H σ env l v r) (e : freezeR env r = some (d, env')) : HoldV K mg H σ env' l v (.sh d) := by
  cases r with
  | no => cases e
  | sh d' => cases e; exact h
  | ol ds => cases e; exact ⟨h.len, h.rep.freeze, fun _ z => by cases z⟩
  | od _ => cases e
  | oi _ _ => cases e
  | sc _ => cases e
  | vw i =>
    have e1 := h.vw i rfl
    have e : (match env[i]? with | some (Sl.ol ds) => some (PyData.list ds, env.set i (.sh (.list ds))) | _ => Option.none) = some (d, env') := e
    split at e
    · rename_i ds e2
      cases e
      obtain ⟨ov, e3, rp⟩ := Hold.take h.drop e2
      rw [e1] at e3; cases e3
      obtain ⟨G, os, rp⟩ := rp
      obtain ⟨G', v', ev, _, dd, os', rp'⟩ := rp.freeze
      cases ev
      have q := rp'.sh dd
      have q2 : Rep K mg H ((some v, Sl.sh (.list ds)) :: (σ.zip (env.set i .no) ++ ((some v, Sl.sh (.list ds)) :: l))) :=
        Rep.perm ⟨_, _, q⟩ ((List.perm_middle (l₁ := σ.zip (env.set i .no))).symm.cons _)
      have q3 := Rep.put q2 (by rw [List.length_set]; exact h.len) e1
      rw [List.set_set] at q3
      exact ⟨by rw [List.length_set]; exact h.len, q3.perm List.perm_middle, fun _ z => by cases z⟩
    · cases e
def freezeAll (env : Lo) : List Sl → Option (List D × Lo)
  | [] => some ([], env)
  | r :: rs => do
    let (d, e1) ← freezeR env r
    let (ds, e2) ← freezeAll e1 rs
    some (d :: ds, e2)
theorem HoldA.freeze : ∀ {rs : List Sl} {vs : List V} {ds : List D} {env env' : Lo} {l : List Item}, HoldA K mg H σ env l vs rs → freezeAll env rs = some (ds, env') → HoldA K mg H σ env' l vs (ds.map .sh) := by
  intro rs
  induction rs with
  | nil =>
    intro vs ds env env' l h e
    cases e
    have : vs = [] := by have := h.alen; simpa using this
    subst this
    exact h
  | cons r rs ih =>
    intro vs ds env env' l h e
    cases vs with
    | nil => have := h.alen; simp at this
    | cons v vs =>
      simp only [freezeAll, Option.bind_eq_bind, Option.bind_eq_some_iff] at e
      obtain ⟨⟨d, e1⟩, ea, ⟨ds', e2⟩, eb, e⟩ := e
      cases e
      have hv : HoldV K mg H σ env ((vs.map some).zip rs ++ l) v r := ⟨h.len, by
        have := h.rep
        rw [List.map_cons, List.zip_cons_cons, List.cons_append] at this
        refine this.perm (List.Perm.cons _ ?_)
        rw [← List.append_assoc, ← List.append_assoc]
        exact List.perm_append_comm.append_right l, h.vw 0 v r rfl rfl⟩
      have hv2 := hv.freeze ea
      have ha : HoldA K mg H σ e1 ((some v, .sh d) :: l) vs rs := ⟨hv2.len, by
        have := hv2.rep
        refine this.perm ?_
        have : ((vs.map some).zip rs ++ (σ.zip e1 ++ (some v, Sl.sh d) :: l)).Perm ((some v, Sl.sh d) :: ((vs.map some).zip rs ++ (σ.zip e1 ++ l))) := by
          rw [← List.append_assoc, ← List.append_assoc]
          exact List.perm_middle
        refine (List.Perm.cons _ ?_).trans this.symm
        rw [← List.append_assoc, ← List.append_assoc]
        exact List.perm_append_comm.append_right l, by simpa using h.alen, fun k v' r' e1 e2 => h.vw (k + 1) v' r' (by simpa using e1) (by simpa using e2)⟩
      have hb := ih ha eb
      refine ⟨hb.len, ?_, by simpa using hb.alen, fun k v' r' e1 e2 => ?_⟩
      · rw [List.map_cons, List.map_cons, List.zip_cons_cons, List.cons_append]
        refine hb.rep.perm ?_
        rw [← List.append_assoc, ← List.append_assoc]
        exact List.perm_middle
      · cases k with
        | zero => simp at e1 e2; subst e2; intro _ z; cases z
        | succ k => exact hb.vw k v' r' (by simpa using e1) (by simpa using e2)
theorem Rp.all {G : Hp} {L : List Item} {os : List Addr} (h : Rp K mg G H L os) : ∀ {vs : List V} {ds : List D}, vs.length = ds.length → (∀ it ∈ (vs.map some).zip (ds.map Sl.sh), it ∈ L) → DtAll K G vs ds
  | [], [], _, _ => .nil
  | [], _ :: _, e, _ => by simp at e
  | _ :: _, [], e, _ => by simp at e
  | v :: vs, d :: ds, e, hm => by
    obtain ⟨v', e', dd⟩ := h.shOf (hm (some v, .sh d) (by simp))
    cases e'
    exact .cons dd (h.all (by simpa using e) fun it hi => hm it (by
      rw [List.map_cons, List.map_cons, List.zip_cons_cons]
      exact List.mem_cons_of_mem _ hi))
theorem Rep.dropA {L : List Item} : ∀ (M : List Item), Rep K mg H (M ++ L) → Rep K mg H L
  | [], h => h
  | _ :: M, h => Rep.dropA M h.tail
end
/-! ### displays -/
def fTup (fs : EvA) : EvF := fun env => do
  let (rs, e1) ← fs env
  let (ds, e2) ← Res.ofO (freezeAll e1 rs)
  if ds.length ≤ 16777216 then .ok (.sh (.tuple ds), e2) else .bad
def fLst (fs : EvA) : EvF := fun env => do
  let (rs, e1) ← fs env
  let (ds, e2) ← Res.ofO (freezeAll e1 rs)
  if ds.length ≤ 16777216 then .ok (.ol ds, e2) else .bad
section
variable {X : Cx} {es : List Expr} {fs : EvA} {pos : Pos}
theorem se_tup {x1} (h : SA X es fs) : SE X (.Tuple es x1 pos) (fTup fs) := by
  obtain ⟨t, p, s⟩ := h.ex
  refine ⟨_, pe_tup p, ?_⟩
  intro σ H env l r env' h e Q q
  unfold fTup at e
  obtain ⟨⟨rs, e1⟩, ea, e⟩ := Res.bind_ok e
  obtain ⟨⟨ds, e2⟩, eb, e⟩ := Res.bind_ok e
  have eb := Res.ofO_ok eb
  dsimp only at e
  split at e
  · rename_i hz
    cases e
    refine s σ H env l rs e1 h ea _ fun vs H1 h1 => ?_
    have h2 := h1.freeze eb
    have hl : vs.length = ds.length := by simpa using h2.alen
    refine ⟨sizeL (by rw [hl]; exact hz), fun x hx => q _ _ ⟨h2.len, ?_, fun _ z => by cases z⟩⟩
    obtain ⟨G, os, rp⟩ := h2.rep
    have g := Got.newT rp.same hx (rp.all hl fun it hi => List.mem_append_left _ hi)
    have := rp.got g
    have := this.perm (l' := ((vs.map some).zip (ds.map Sl.sh)) ++ ((some (V.ref x), Sl.sh (.tuple ds)) :: (σ.zip env' ++ l))) List.perm_middle.symm
    exact Rep.dropA _ this
  · cases e
theorem se_lst (h : SA X es fs) : SE X (.List es pos) (fLst fs) := by
  obtain ⟨t, p, s⟩ := h.ex
  refine ⟨_, pe_lst p, ?_⟩
  intro σ H env l r env' h e Q q
  unfold fLst at e
  obtain ⟨⟨rs, e1⟩, ea, e⟩ := Res.bind_ok e
  obtain ⟨⟨ds, e2⟩, eb, e⟩ := Res.bind_ok e
  have eb := Res.ofO_ok eb
  dsimp only at e
  split at e
  · rename_i hz
    cases e
    refine s σ H env l rs e1 h ea _ fun vs H1 h1 => ?_
    have h2 := h1.freeze eb
    have hl : vs.length = ds.length := by simpa using h2.alen
    refine ⟨sizeL (by rw [hl]; exact hz), fun x hx => q _ _ ⟨h2.len, ?_, fun _ z => by cases z⟩⟩
    obtain ⟨G, os, rp⟩ := h2.rep
    have g := Got.newL (H := H1) (G := G) hx (rp.all hl fun it hi => List.mem_append_left _ hi)
    have := rp.got g
    have := this.perm (l' := ((vs.map some).zip (ds.map Sl.sh)) ++ ((some (V.ref x), Sl.ol ds) :: (σ.zip env' ++ l))) List.perm_middle.symm
    exact Rep.dropA _ this
  · cases e
end

/-! ### built-ins by their name -/
inductive DTs (K : PySem.W.Frag) (G H : Hp) : List V → List D → Prop
  | nil : DTs K G H [] []
  | cons {v : V} {d : D} {vs : List V} {ds : List D} : DpT K G H v d → DTs K G H vs ds → DTs K G H (v :: vs) (d :: ds)
def SemC (K : PySem.W.Frag) (r : List V → Hp → VK → Prop) (op : List D → Option Sl) : Prop :=
  ∀ (G H : Hp) (vs : List V) (ds : List D) (s : Sl) (Q : VK), Same G H → DTs K G H vs ds → op ds = some s → (∀ v H', Got K G H v s H' → Q v H') → r vs H Q
def views (env : Lo) : List Sl → Option (List D)
  | [] => some []
  | r :: rs => do
    let d ← view env r
    let ds ← views env rs
    some (d :: ds)
def fCB (op : List D → Option Sl) (fs : EvA) : EvF := fun env => do
  let (rs, e1) ← fs env
  let ds ← Res.ofO (views e1 rs)
  let s ← Res.ofO (op ds)
  .ok (s, e1)
theorem views_ok {K : PySem.W.Frag} {mg : Str → Option Value} {G H : Hp} {σ : L2.St} {env : Lo} {L : List Item} {os : List Addr} (rp : Rp K mg G H L os) (hz : ∀ it ∈ σ.zip env, it ∈ L) :
    ∀ {vs : List V} {rs : List Sl} {ds : List D}, vs.length = rs.length → (∀ it ∈ (vs.map some).zip rs, it ∈ L) → (∀ (k : Nat) (v : V) (r : Sl), vs[k]? = some v → rs[k]? = some r → VwOk σ v r) → views env rs = some ds → DTs K G H vs ds
  | [], [], ds, _, _, _, e => by cases e; exact .nil
  | [], _ :: _, _, h, _, _, _ => by simp at h
  | _ :: _, [], _, h, _, _, _ => by simp at h
  | v :: vs, r :: rs, ds, h, hm, hv, e => by
    simp only [views, Option.bind_eq_bind, Option.bind_eq_some_iff] at e
    obtain ⟨d, ed, ds', eds, e⟩ := e
    cases e
    refine .cons (rp.view (σ := σ) (hm _ (by simp)) hz (hv 0 v r rfl rfl) ed) (views_ok rp hz (by simpa using h) (fun it hi => hm it ?_) (fun k v r e1 e2 => hv (k + 1) v r (by simpa using e1) (by simpa using e2)) eds)
    rw [List.map_cons, List.zip_cons_cons]
    exact List.mem_cons_of_mem _ hi
theorem sem_cb {K : PySem.W.Frag} {mg : Str → Option Value} {r : List V → Hp → VK → Prop} {op : List D → Option Sl} {t : TA} {fs : EvA} (ho : SemC K r op) (hs : SemA K mg t fs) : SemE K mg (tCB r t) (fCB op fs) := by
  intro σ H env l s env' h e Q q
  unfold fCB at e
  obtain ⟨⟨rs, e1⟩, ea, e⟩ := Res.bind_ok e
  obtain ⟨ds, ev, e⟩ := Res.bind_ok e
  obtain ⟨s', es, e⟩ := Res.bind_ok e
  cases e
  have ev := Res.ofO_ok ev
  have es := Res.ofO_ok es
  refine hs σ H env l rs _ h ea _ fun vs H1 h1 => ?_
  obtain ⟨G, os, rp⟩ := h1.rep
  refine ho G H1 vs ds s Q rp.same (views_ok rp (fun it hi => List.mem_append_right _ (List.mem_append_left _ hi)) h1.alen (fun it hi => List.mem_append_left _ hi) h1.vw ev) es fun v H2 g => q v H2 ⟨h1.len, ?_, g.novw⟩
  have := rp.got g
  have := this.perm (l' := ((vs.map some).zip rs) ++ ((some v, s) :: (σ.zip env' ++ l))) List.perm_middle.symm
  exact Rep.dropA _ this
section
variable {X : Cx} {x : Str} {p pos : Pos} {e : Expr} {es : List Expr} {fs : EvA} {id T : String} {r : List V → Hp → VK → Prop} {op : List D → Option Sl}
theorem se_cB (hc : CallR X (.builtin id) r) (so : SemC X.K r op) (hg : Gl X x) (hm : X.mg x = none) (hv : bootBuiltins x = some (.builtin id)) (ha : SA X (e :: es) fs) (hn : x ≠ "__name__" := by decide) (hdb : (x == ("__debug__" : Str)) = false := by decide)
    (he : starEach (e :: es) X.env = (false, eval e X.env) :: starEach es X.env := by rfl) (hpl : (backTo pos (starEach es X.env)).any (·.1) = false := by rfl) : SE X (.Call (.Name x p) (e :: es) [] pos) (fCB op fs) := by
  obtain ⟨t, p', s⟩ := ha.ex
  exact ⟨_, pe_callB hc hg hm hv p' hn hdb he hpl, sem_cb so s⟩
theorem se_cTy (hc : CallR X (.type T) r) (so : SemC X.K r op) (hg : Gl X x) (hm : X.mg x = none) (hv : bootBuiltins x = some (.type T)) (ha : SA X (e :: es) fs) (hn : x ≠ "__name__" := by decide) (hdb : (x == ("__debug__" : Str)) = false := by decide)
    (he : starEach (e :: es) X.env = (false, eval e X.env) :: starEach es X.env := by rfl) (hpl : (backTo pos (starEach es X.env)).any (·.1) = false := by rfl) : SE X (.Call (.Name x p) (e :: es) [] pos) (fCB op fs) := by
  obtain ⟨t, p', s⟩ := ha.ex
  exact ⟨_, pe_callTy hc hg hm hv p' hn hdb he hpl, sem_cb so s⟩
end
theorem DTs.one {K : PySem.W.Frag} {G H : Hp} {vs : List V} {d : D} (h : DTs K G H vs [d]) : ∃ v, vs = [v] ∧ DpT K G H v d := by
  cases h with
  | cons a b => cases b; exact ⟨_, rfl, a⟩
theorem DTs.two {K : PySem.W.Frag} {G H : Hp} {vs : List V} {d d' : D} (h : DTs K G H vs [d, d']) : ∃ v v', vs = [v, v'] ∧ DpT K G H v d ∧ DpT K G H v' d' := by
  cases h with
  | cons a b => cases b with
    | cons b c => cases c; exact ⟨_, _, rfl, a, b⟩
def lenD : List D → Option Sl
  | [.list ds] => some (.sh (.int ds.length))
  | [.tuple ds] => some (.sh (.int ds.length))
  | [.str x] => if x.length ≤ 16777216 then some (.sh (.int x.length)) else none
  | _ => none
def rLenAll (K : PySem.W.Frag) : List V → Hp → VK → Prop := fun xs H Q => (∃ p ys, xs = [.ref p] ∧ (SqL K H p ys ∨ SqT K H p ys) ∧ Q (.int ys.length) H) ∨ ∃ z, xs = [.str z] ∧ z.length ≤ sizeLine ∧ Q (.int z.length) H
theorem CallR.or {X : Cx} {f : Value} {r r' : List V → Hp → VK → Prop} (h : CallR X f r) (h' : CallR X f r') : CallR X f (fun xs H Q => r xs H Q ∨ r' xs H Q) := by
  intro pins s σ H xs us Q I rx q
  rcases q with q | q
  · exact h pins s σ H xs us Q I rx q
  · exact h' pins s σ H xs us Q I rx q
theorem oc_len {X : Cx} : CallR X (.builtin "len") (rLenAll X.K) := call_len_seq.or call_len_str
theorem sc_len {K : PySem.W.Frag} : SemC K (rLenAll K) lenD := by
  intro G H vs ds s Q sm h e q
  unfold lenD at e
  split at e
  · cases e
    obtain ⟨v, rfl, d⟩ := h.one
    obtain ⟨p, ws, rfl, hp, hv⟩ := d.list sm
    exact .inl ⟨p, ws, rfl, .inl (.of hp), by rw [hv.length]; exact q _ _ .int⟩
  · cases e
    obtain ⟨v, rfl, d⟩ := h.one
    obtain ⟨p, ws, rfl, hp, hv⟩ := d.tuple sm
    exact .inl ⟨p, ws, rfl, .inr hp, by rw [hv.length]; exact q _ _ .int⟩
  · split at e
    · rename_i hz
      cases e
      obtain ⟨v, rfl, d⟩ := h.one
      exact .inr ⟨_, by rw [d.str], sizeL hz, q _ _ .int⟩
    · cases e
  · cases e
def intsOf : List D → Option (List Int)
  | [] => some []
  | .int i :: ds => (intsOf ds).map (i :: ·)
  | _ => none
theorem intsOf_eq : ∀ {ds : List D} {ns : List Int}, intsOf ds = some ns → ds = ns.map PyData.int
  | [], ns, e => by cases e; rfl
  | .int i :: ds, ns, e => by
    simp only [intsOf, Option.map_eq_some_iff] at e
    obtain ⟨ms, e1, e2⟩ := e
    subst e2
    rw [intsOf_eq e1]; rfl
  | .none :: _, _, e => by cases e
  | .bool _ :: _, _, e => by cases e
  | .str _ :: _, _, e => by cases e
  | .list _ :: _, _, e => by cases e
  | .tuple _ :: _, _, e => by cases e
  | .dict _ :: _, _, e => by cases e
theorem intsOf_map : ∀ (ns : List Int), intsOf (ns.map PyData.int) = some ns
  | [] => rfl
  | n :: ns => by simp only [List.map_cons, intsOf, intsOf_map ns, Option.map_some]
def boolsOf : List D → Option (List Bool)
  | [] => some []
  | .bool i :: ds => (boolsOf ds).map (i :: ·)
  | _ => none
theorem boolsOf_eq : ∀ {ds : List D} {ns : List Bool}, boolsOf ds = some ns → ds = ns.map PyData.bool
  | [], ns, e => by cases e; rfl
  | .bool i :: ds, ns, e => by
    simp only [boolsOf, Option.map_eq_some_iff] at e
    obtain ⟨ms, e1, e2⟩ := e
    subst e2
    rw [boolsOf_eq e1]; rfl
  | .none :: _, _, e => by cases e
  | .int _ :: _, _, e => by cases e
  | .str _ :: _, _, e => by cases e
  | .list _ :: _, _, e => by cases e
  | .tuple _ :: _, _, e => by cases e
  | .dict _ :: _, _, e => by cases e
theorem boolsOf_map : ∀ (ns : List Bool), boolsOf (ns.map PyData.bool) = some ns
  | [] => rfl
  | n :: ns => by simp only [List.map_cons, boolsOf, boolsOf_map ns, Option.map_some]
theorem DtAll.of_bools {K : PySem.W.Frag} {G : Hp} : ∀ {vs : List V} {ns : List Bool}, DtAll K G vs (ns.map PyData.bool) → vs = ns.map V.bl
  | _, [], h => by cases h; rfl
  | _, n :: ns, h => by
    cases h with
    | cons r t => cases r; rw [DtAll.of_bools t]; rfl
def sumD : List D → Option Sl
  | [.list ds] => (intsOf ds).map fun ns => .sh (.int ns.sum)
  | _ => none
theorem sc_sum {K : PySem.W.Frag} : SemC K (rSum K) sumD := by
  intro G H vs ds s Q sm h e q
  unfold sumD at e
  split at e
  · rename_i ds
    simp only [Option.map_eq_some_iff] at e
    obtain ⟨ns, e1, e2⟩ := e
    subst e2
    have := intsOf_eq e1
    subst this
    obtain ⟨v, rfl, d⟩ := h.one
    obtain ⟨p, ws, rfl, hp, hv⟩ := d.list sm
    have := hv.of_ints
    subst this
    exact ⟨p, ns, rfl, .of hp, q _ _ .int⟩
  · cases e
def anyD : List D → Option Sl
  | [.list ds] => (boolsOf ds).map fun ns => .sh (.bool (ns.any id))
  | _ => none
def allD : List D → Option Sl
  | [.list ds] => (boolsOf ds).map fun ns => .sh (.bool (ns.all id))
  | _ => none
theorem sc_any {K : PySem.W.Frag} : SemC K (rAny K) anyD := by
  intro G H vs ds s Q sm h e q
  unfold anyD at e
  split at e
  · rename_i ds
    simp only [Option.map_eq_some_iff] at e
    obtain ⟨ns, e1, e2⟩ := e
    subst e2
    have := boolsOf_eq e1
    subst this
    obtain ⟨v, rfl, d⟩ := h.one
    obtain ⟨p, ws, rfl, hp, hv⟩ := d.list sm
    have := hv.of_bools
    subst this
    exact ⟨p, ns, rfl, .of hp, q _ _ .bl⟩
  · cases e
theorem sc_all {K : PySem.W.Frag} : SemC K (rAll K) allD := by
  intro G H vs ds s Q sm h e q
  unfold allD at e
  split at e
  · rename_i ds
    simp only [Option.map_eq_some_iff] at e
    obtain ⟨ns, e1, e2⟩ := e
    subst e2
    have := boolsOf_eq e1
    subst this
    obtain ⟨v, rfl, d⟩ := h.one
    obtain ⟨p, ws, rfl, hp, hv⟩ := d.list sm
    have := hv.of_bools
    subst this
    exact ⟨p, ns, rfl, .of hp, q _ _ .bl⟩
  · cases e
def absD : List D → Option Sl
  | [.int i] => some (.sh (.int (if i < 0 then -i else i)))
  | _ => none
theorem sc_abs {K : PySem.W.Frag} : SemC K (fun xs H Q => ∃ i, xs = [V.int i] ∧ Q (.int (if i < 0 then -i else i)) H) absD := by
  intro G H vs ds s Q sm h e q
  unfold absD at e
  split at e
  · cases e
    obtain ⟨v, rfl, d⟩ := h.one
    exact ⟨_, by rw [d.int], q _ _ .int⟩
  · cases e
def intD : List D → Option Sl
  | [.int i] => some (.sh (.int i))
  | [.bool b] => some (.sh (.int (if b then 1 else 0)))
  | _ => none
theorem sc_int {K : PySem.W.Frag} : SemC K (fun xs H Q => (∃ i, xs = [V.int i] ∧ Q (.int i) H) ∨ ∃ k, xs = [V.bl k] ∧ Q (.int (if k then 1 else 0)) H) intD := by
  intro G H vs ds s Q sm h e q
  unfold intD at e
  split at e
  · cases e
    obtain ⟨v, rfl, d⟩ := h.one
    exact .inl ⟨_, by rw [d.int], q _ _ .int⟩
  · cases e
    obtain ⟨v, rfl, d⟩ := h.one
    exact .inr ⟨_, by rw [d.bool], q _ _ .int⟩
  · cases e
def maxD : List D → Option Sl
  | [.int i, .int j] => some (.sh (.int (if j > i then j else i)))
  | _ => none
theorem sc_max {K : PySem.W.Frag} : SemC K (fun xs H Q => ∃ i j, xs = [V.int i, .int j] ∧ Q (.int (if j > i then j else i)) H) maxD := by
  intro G H vs ds s Q sm h e q
  unfold maxD at e
  split at e
  · cases e
    obtain ⟨v, v', rfl, d, d'⟩ := h.two
    exact ⟨_, _, by rw [d.int, d'.int], q _ _ .int⟩
  · cases e
def tupleD : List D → Option Sl
  | [.list ds] => some (.sh (.tuple ds))
  | [.tuple ds] => some (.sh (.tuple ds))
  | _ => none
theorem sc_tuple {K : PySem.W.Frag} : SemC K (fun xs H Q => ∃ p ys, xs = [V.ref p] ∧ ((SqL K H p ys ∧ ∀ l, H l = Option.none → Q (.ref l) (upd H l (.tup ys))) ∨ (SqT K H p ys ∧ Q (.ref p) H))) tupleD := by
  intro G H vs ds s Q sm h e q
  unfold tupleD at e
  split at e
  · cases e
    obtain ⟨v, rfl, d⟩ := h.one
    obtain ⟨p, ws, rfl, hp, hv⟩ := d.list sm
    exact ⟨p, ws, rfl, .inl ⟨.of hp, fun l hl => q _ _ (.newT sm hl hv)⟩⟩
  · cases e
    obtain ⟨v, rfl, d⟩ := h.one
    have d0 := d
    obtain ⟨p, ws, rfl, hp, hv⟩ := d.tuple sm
    refine ⟨p, ws, rfl, .inr ⟨hp, q _ _ (.now ?_)⟩⟩
    rcases d0 with d0 | ⟨_, _, _, _, z, _⟩
    · exact d0
    · cases z
  · cases e
def listD : List D → Option Sl
  | [.list ds] => some (.ol ds)
  | [.tuple ds] => some (.ol ds)
  | _ => none
theorem sc_list {K : PySem.W.Frag} : SemC K (fun xs H Q => ∃ p ys, xs = [V.ref p] ∧ (SqL K H p ys ∨ SqT K H p ys) ∧ ∀ l, H l = Option.none → Q (.ref l) (upd H l (.lst ys))) listD := by
  intro G H vs ds s Q sm h e q
  unfold listD at e
  split at e
  · cases e
    obtain ⟨v, rfl, d⟩ := h.one
    obtain ⟨p, ws, rfl, hp, hv⟩ := d.list sm
    exact ⟨p, ws, rfl, .inl (.of hp), fun l hl => q _ _ (.newL hl hv)⟩
  · cases e
    obtain ⟨v, rfl, d⟩ := h.one
    obtain ⟨p, ws, rfl, hp, hv⟩ := d.tuple sm
    exact ⟨p, ws, rfl, .inr hp, fun l hl => q _ _ (.newL hl hv)⟩
  · cases e
end FL

/-! FL5: calls of the text's own defs, statements, loops, comprehensions -/
namespace FL
open PySem PySem.Spec PyProof.Rows L2

/-! ### a def as a function of what its arguments hold -/
abbrev Fn := List Sl → Res (Sl × List Sl)
def isVw : Sl → Bool
  | .vw _ => true
  | _ => false
def spF (K : PySem.W.Frag) (mg : Str → Option Value) (n : Nat) (F : Fn) : Sp := fun vs H Q _ => vs.length = n ∧ ∃ (args : List Sl) (l : List Item) (r : Sl) (args' : List Sl), args.length = n ∧ Rep K mg H ((vs.map some).zip args ++ l) ∧ F args = .ok (r, args') ∧
  ∀ v H', Rep K mg H' ((some v, r) :: ((vs.map some).zip args' ++ l)) → isVw r = false → Q v H'
structure FnF (P : Program) (w : World) (K : PySem.W.Frag) (mg : Str → Option Value) (base : Heap) (x : Str) (n k : Nat) (F : Fn) : Prop where
  ex : ∃ (f : Addr) (fd : FuncData) (ps : List Str), mg x = some (.ref f) ∧ PySem.W.keepIn K (.ref f) = true ∧ Binds K fd ps [] ∧ FnOk P w K mg base CX0 k f fd ps (spF K mg n F)
def moveIn (env : Lo) : List Sl → List Sl × Lo
  | [] => ([], env)
  | r :: rs => match r with
    | .vw i => let p := moveIn (env.set i .no) rs; ((env[i]?.getD .no) :: p.1, p.2)
    | r => let p := moveIn env rs; (r :: p.1, p.2)
def moveBack (env : Lo) : List Sl → List Sl → Lo
  | r :: rs, a :: as => match r with
    | .vw i => moveBack (env.set i a) rs as
    | _ => moveBack env rs as
  | _, _ => env
def fCall (F : Fn) (fs : EvA) : EvF := fun env => do
  let (rs, e1) ← fs env
  let (r, as') ← F (moveIn e1 rs).1
  if isVw r = true then .bad else .ok (r, moveBack (moveIn e1 rs).2 rs as')
section
variable {K : PySem.W.Frag} {mg : Str → Option Value} {H : Hp} {σ : L2.St} {l : List Item}
theorem perm_mid {α : Type} {a : α} {A B : List α} : (a :: (A ++ B)).Perm (A ++ a :: B) := List.perm_middle.symm
theorem moveIn_ok : ∀ {rs : List Sl} {vs : List V} {env : Lo} {l : List Item}, HoldA K mg H σ env l vs rs → σ.length = (moveIn env rs).2.length ∧ (moveIn env rs).1.length = rs.length ∧ Rep K mg H ((vs.map some).zip (moveIn env rs).1 ++ (σ.zip (moveIn env rs).2 ++ l)) := by
  intro rs
  induction rs with
  | nil => intro vs env l h; exact ⟨h.len, rfl, h.rep⟩
  | cons r rs ih =>
    intro vs env l h
    cases vs with
    | nil => have := h.alen; simp at this
    | cons v vs =>
      have h0 : Rep K mg H ((some v, r) :: ((vs.map some).zip rs ++ (σ.zip env ++ l))) := by
        have := h.rep
        rw [List.map_cons, List.zip_cons_cons, List.cons_append] at this
        exact this
      have hw : ∀ (k : Nat) (v' : V) (r' : Sl), vs[k]? = some v' → rs[k]? = some r' → VwOk σ v' r' := fun k v' r' e1 e2 => h.vw (k + 1) v' r' (by simpa using e1) (by simpa using e2)
      by_cases hr : ∃ i, r = .vw i
      · obtain ⟨i, rfl⟩ := hr
        have e1 : σ[i]? = some (some v) := h.vw 0 v _ rfl rfl i rfl
        have hi : i < env.length := by have := (List.getElem?_eq_some_iff.mp e1).1; have := h.len; omega
        have e2 : env[i]? = some env[i] := List.getElem?_eq_getElem hi
        have hh : Hold K mg H σ env ((vs.map some).zip rs ++ l) := ⟨h.len, by
          refine h0.tail.perm ?_
          rw [← List.append_assoc, ← List.append_assoc]
          exact List.perm_append_comm.append_right l⟩
        obtain ⟨ov, e3, rp⟩ := hh.take e2
        rw [e1] at e3; cases e3
        have ha : HoldA K mg H σ (env.set i .no) ((some v, env[i]) :: l) vs rs := ⟨by rw [List.length_set]; exact h.len, by
          refine rp.perm ?_
          refine List.Perm.trans (List.Perm.cons _ ?_) (l₂ := (some v, env[i]) :: ((vs.map some).zip rs ++ (σ.zip (env.set i .no) ++ l))) ?_
          · rw [← List.append_assoc, ← List.append_assoc]
            exact List.perm_append_comm.append_right l
          · rw [← List.append_assoc, ← List.append_assoc]
            exact perm_mid, by have := h.alen; simpa using this, hw⟩
        obtain ⟨a, b, c⟩ := ih ha
        have es : moveIn env (Sl.vw i :: rs) = (env[i] :: (moveIn (env.set i .no) rs).1, (moveIn (env.set i .no) rs).2) := by
          show ((env[i]?.getD .no) :: _, _) = _
          rw [e2]; rfl
        rw [es]
        refine ⟨a, by simp [b], ?_⟩
        rw [List.map_cons, List.zip_cons_cons, List.cons_append]
        refine c.perm ?_
        rw [← List.append_assoc, ← List.append_assoc]
        exact perm_mid.symm
      · have es : moveIn env (r :: rs) = (r :: (moveIn env rs).1, (moveIn env rs).2) := by
          cases r <;> first | rfl | exact absurd ⟨_, rfl⟩ hr
        have ha : HoldA K mg H σ env ((some v, r) :: l) vs rs := ⟨h.len, by
          refine h0.perm ?_
          rw [← List.append_assoc, ← List.append_assoc]
          exact perm_mid, by have := h.alen; simpa using this, hw⟩
        obtain ⟨a, b, c⟩ := ih ha
        rw [es]
        refine ⟨a, by simp [b], ?_⟩
        rw [List.map_cons, List.zip_cons_cons, List.cons_append]
        refine c.perm ?_
        rw [← List.append_assoc, ← List.append_assoc]
        exact perm_mid.symm
theorem moveBack_ok : ∀ {rs as : List Sl} {vs : List V} {env : Lo} {l : List Item}, σ.length = env.length → vs.length = rs.length → Rep K mg H ((vs.map some).zip as ++ (σ.zip env ++ l)) →
    (∀ (k : Nat) (v : V) (r : Sl), vs[k]? = some v → rs[k]? = some r → VwOk σ v r) → σ.length = (moveBack env rs as).length ∧ Rep K mg H (σ.zip (moveBack env rs as) ++ l) := by
  intro rs
  induction rs with
  | nil => intro as vs env l h1 h2 h3 h4; exact ⟨h1, Rep.dropA _ h3⟩
  | cons r rs ih =>
    intro as vs env l h1 h2 h3 h4
    cases as with
    | nil => exact ⟨h1, Rep.dropA _ h3⟩
    | cons a as =>
      cases vs with
      | nil => simp at h2
      | cons v vs =>
        have h0 : Rep K mg H ((some v, a) :: ((vs.map some).zip as ++ (σ.zip env ++ l))) := by
          rw [List.map_cons, List.zip_cons_cons, List.cons_append] at h3
          exact h3
        have hw : ∀ (k : Nat) (v' : V) (r' : Sl), vs[k]? = some v' → rs[k]? = some r' → VwOk σ v' r' := fun k v' r' e1 e2 => h4 (k + 1) v' r' (by simpa using e1) (by simpa using e2)
        by_cases hr : ∃ i, r = .vw i
        · obtain ⟨i, rfl⟩ := hr
          have e1 : σ[i]? = some (some v) := h4 0 v _ rfl rfl i rfl
          have hp : Rep K mg H ((some v, a) :: (σ.zip env ++ ((vs.map some).zip as ++ l))) := by
            refine h0.perm (List.Perm.cons _ ?_)
            rw [← List.append_assoc, ← List.append_assoc]
            exact List.perm_append_comm.append_right l
          have q := Rep.put hp h1 e1
          show σ.length = (moveBack (env.set i a) rs as).length ∧ _
          refine ih (by rw [List.length_set]; exact h1) (by simpa using h2) (q.perm ?_) hw
          rw [← List.append_assoc, ← List.append_assoc]
          exact List.perm_append_comm.append_right l
        · have es : moveBack env (r :: rs) (a :: as) = moveBack env rs as := by
            cases r <;> first | rfl | exact absurd ⟨_, rfl⟩ hr
          rw [es]
          exact ih h1 (by simpa using h2) h0.tail hw
theorem sem_call {n : Nat} {F : Fn} {t : TA} {fs : EvA} {na : Nat} (hn : na = n) (hs : SemA K mg t fs) (hl : ∀ env rs env', fs env = .ok (rs, env') → rs.length = na) : SemE K mg (tCall (spF K mg n F) [] E0 t) (fCall F fs) := by
  subst hn
  intro σ H env l r env' h e Q q
  unfold fCall at e
  obtain ⟨⟨rs, e1⟩, ea, e⟩ := Res.bind_ok e
  obtain ⟨⟨r', as'⟩, eF, e⟩ := Res.bind_ok e
  dsimp only at eF e
  split at e
  · cases e
  · rename_i hr
    cases e
    refine hs σ H env l rs e1 h ea _ fun vs H1 h1 => ?_
    obtain ⟨a, b, c⟩ := moveIn_ok h1
    show spF K mg na F (vs ++ []) H1 Q E0
    rw [List.append_nil]
    have hlen := hl _ _ _ ea
    refine ⟨by rw [h1.alen, hlen], _, _, r, as', by rw [b, hlen], c, eF, fun v H2 rp hv => q v H2 ?_⟩
    have rp2 : Rep K mg H2 ((vs.map some).zip as' ++ (σ.zip (moveIn e1 rs).2 ++ ((some v, r) :: l))) := by
      refine rp.perm ?_
      have p1 : ((some v, r) :: ((vs.map some).zip as' ++ (σ.zip (moveIn e1 rs).2 ++ l))).Perm ((vs.map some).zip as' ++ ((some v, r) :: (σ.zip (moveIn e1 rs).2 ++ l))) := perm_mid
      exact p1.trans (List.Perm.append_left _ perm_mid)
    obtain ⟨x, y⟩ := moveBack_ok a h1.alen rp2 h1.vw
    exact ⟨x, y.perm perm_mid.symm, fun i z => by subst z; simp [isVw] at hr⟩
end
/-- how many arguments -/
structure ArN (fs : EvA) (n : Nat) : Prop where
  eq : ∀ env rs env', fs env = .ok (rs, env') → rs.length = n
theorem ar_nil : ArN fNil 0 := ⟨fun _ _ _ e => by cases e; rfl⟩
theorem ar_cons {fa : EvF} {fr : EvA} {n : Nat} (h : ArN fr n) : ArN (fCons fa fr) (n + 1) := ⟨fun env rs env' e => by
  unfold fCons at e
  obtain ⟨⟨ra, e1⟩, ea, e⟩ := Res.bind_ok e
  obtain ⟨⟨rb, e2⟩, eb, e⟩ := Res.bind_ok e
  cases e
  simp [h.eq _ _ _ eb]⟩
section
variable {X : Cx} {x : Str} {n k : Nat} {F : Fn} {p pos : Pos} {e : Expr} {es : List Expr} {fs : EvA}
theorem se_call (hF : FnF X.prog X.w X.K X.mg X.base x n k F) (hr : Room k X.A) (hg : Gl X x) (ha : SA X (e :: es) fs) (hn : ArN fs n) (hdb : (x == ("__debug__" : Str)) = false := by decide)
    (he : starEach (e :: es) X.env = (false, eval e X.env) :: starEach es X.env := by rfl) (hpl : (backTo pos (starEach es X.env)).any (·.1) = false := by rfl) : SE X (.Call (.Name x p) (e :: es) [] pos) (fCall F fs) := by
  obtain ⟨f, fd, ps, hm, hk, hb, F⟩ := hF.ex
  obtain ⟨t, p', s⟩ := ha.ex
  exact ⟨_, pe_call F hr hg hm hk hb .nil pass0 p' hdb he hpl, sem_call rfl s hn.eq⟩
end

/-! ### statements -/
inductive Out where
  | nx (env : Lo)
  | rt (r : Sl) (env : Lo)
  | bk (env : Lo)
  | ct (env : Lo)
abbrev EvS := Lo → Res Out
def KeepEq (ks : List Nat) (σ σ' : L2.St) : Prop := ∀ k ∈ ks, σ'[k]? = σ[k]?
theorem KeepEq.refl {ks : List Nat} {σ : L2.St} : KeepEq ks σ σ := fun _ _ => rfl
theorem KeepEq.trans {ks : List Nat} {σ σ1 σ2 : L2.St} (a : KeepEq ks σ σ1) (b : KeepEq ks σ1 σ2) : KeepEq ks σ σ2 := fun k h => (b k h).trans (a k h)
def PostS (K : PySem.W.Frag) (mg : Str → Option Value) (D : Ends) (ks : List Nat) (σ : L2.St) (l : List Item) : Out → Prop
  | .nx env' => ∀ σ' H', Hold K mg H' σ' env' l → KeepEq ks σ σ' → D.nx σ' H'
  | .bk env' => ∀ σ' H', Hold K mg H' σ' env' l → KeepEq ks σ σ' → D.bk σ' H'
  | .ct env' => ∀ σ' H', Hold K mg H' σ' env' l → KeepEq ks σ σ' → D.ct σ' H'
  | .rt r env' => ∀ v σ' H', HoldV K mg H' σ' env' l v r → isVw r = false → KeepEq ks σ σ' → D.rt v H'
def SemS (K : PySem.W.Frag) (mg : Str → Option Value) (ks : List Nat) (t : TS) (f : EvS) : Prop :=
  ∀ (σ : L2.St) (H : Hp) (env : Lo) (l : List Item) (o : Out), Hold K mg H σ env l → f env = .ok o → ∀ D : Ends, PostS K mg D ks σ l o → t D σ H
structure SS (X : Cx) (ks : List Nat) (st : Stmt) (f : EvS) : Prop where
  ex : ∃ t, PS X st t ∧ SemS X.K X.mg ks t f
structure SSs (X : Cx) (ks : List Nat) (st : List Stmt) (f : EvS) : Prop where
  ex : ∃ t, PSs X st t ∧ SemS X.K X.mg ks t f
theorem PostS.keep {K : PySem.W.Frag} {mg : Str → Option Value} {D : Ends} {ks : List Nat} {σ σ1 : L2.St} {l : List Item} {o : Out} (k : KeepEq ks σ σ1) (p : PostS K mg D ks σ l o) : PostS K mg D ks σ1 l o := by
  cases o with
  | nx e => exact fun σ' H' h q => p σ' H' h (k.trans q)
  | bk e => exact fun σ' H' h q => p σ' H' h (k.trans q)
  | ct e => exact fun σ' H' h q => p σ' H' h (k.trans q)
  | rt r e => exact fun v σ' H' h n q => p v σ' H' h n (k.trans q)
def fNext : EvS := fun env => .ok (.nx env)
def fSeq (f g : EvS) : EvS := fun env => do
  match ← f env with
  | .nx e => g e
  | o => .ok o
theorem fSeq_eq {f g : EvS} {env : Lo} : fSeq f g env = (f env).bind fun o => match o with | .nx e => g e | o => .ok o := rfl
section
variable {X : Cx} {ks : List Nat} {st : Stmt} {rest body : List Stmt} {f g : EvS} {e : Expr} {fa : EvF} {pos : Pos} {i : Nat} {x : Str}
theorem ss_nil : SSs X ks [] fNext := ⟨_, pss_nil, fun σ H env l o h e D p => by cases e; exact p σ H h .refl⟩
theorem ss_one (h : SS X ks st f) : SSs X ks [st] f := by
  obtain ⟨t, p, s⟩ := h.ex
  exact ⟨_, pss_one p, s⟩
theorem ss_cons (h : SS X ks st f) (h2 : SSs X ks rest g) : SSs X ks (st :: rest) (fSeq f g) := by
  obtain ⟨t, p, s⟩ := h.ex
  obtain ⟨t', p', s'⟩ := h2.ex
  refine ⟨_, pss_cons p p', ?_⟩
  intro σ H env l o h e D post
  obtain ⟨o1, e1, e⟩ := Res.bind_ok e
  refine s σ H env l o1 h e1 _ ?_
  cases o1 with
  | nx e2 => exact fun σ' H' h' k => s' σ' H' e2 l o h' e D (post.keep k)
  | bk e2 => cases e; exact post
  | ct e2 => cases e; exact post
  | rt r e2 => cases e; exact post
theorem ss_pass : SS X ks (.Pass pos) fNext := ⟨_, ps_pass, fun σ H env l o h e D p => by cases e; exact p σ H h .refl⟩
def fBrk : EvS := fun env => .ok (.bk env)
def fCont : EvS := fun env => .ok (.ct env)
theorem ss_brk : SS X ks (.Break pos) fBrk := ⟨_, ps_break, fun σ H env l o h e D p => by cases e; exact p σ H h .refl⟩
theorem ss_cont : SS X ks (.Continue pos) fCont := ⟨_, ps_continue, fun σ H env l o h e D p => by cases e; exact p σ H h .refl⟩
/-- a value for a slot -/
def asgR (env : Lo) (r : Sl) : Option (Sl × Lo) := match r with
  | .vw i => (freezeR env (.vw i)).map fun p => (.sh p.1, p.2)
  | .no => none
  | r => some (r, env)
theorem HoldV.asg {K : PySem.W.Frag} {mg : Str → Option Value} {H : Hp} {σ : L2.St} {env env' : Lo} {l : List Item} {v : V} {r r' : Sl} (h : HoldV K mg H σ env l v r) (e : asgR env r = some (r', env')) : HoldV K mg H σ env' l v r' ∧ isVw r' = false := by
  cases r with
  | no => cases e
  | vw i =>
    simp only [asgR, Option.map_eq_some_iff] at e
    obtain ⟨⟨d, e1⟩, ea, eb⟩ := e
    cases eb
    exact ⟨h.freeze ea, rfl⟩
  | sh d => cases e; exact ⟨h, rfl⟩
  | ol ds => cases e; exact ⟨h, rfl⟩
  | od _ => cases e; exact ⟨h, rfl⟩
  | oi _ _ => cases e; exact ⟨h, rfl⟩
  | sc _ => cases e; exact ⟨h, rfl⟩
def fAsg (i : Nat) (fa : EvF) : EvS := fun env => do
  let (r, e1) ← fa env
  let (r', e2) ← Res.ofO (asgR e1 r)
  if i < e2.length then .ok (.nx (e2.set i r')) else .bad
theorem keep_set {ks : List Nat} {σ : L2.St} {i : Nat} {ov : Option V} (h : i ∉ ks) : KeepEq ks σ (σ.set i ov) := fun k hk => List.getElem?_set_ne (fun e => h (by rw [e]; exact hk))
theorem sem_asg {K : PySem.W.Frag} {mg : Str → Option Value} {te : TE} (s : SemE K mg te fa) (hk : i ∉ ks) : SemS K mg ks (tAsg te (gName i)) (fAsg i fa) := by
  intro σ H env l o h e D post
  unfold fAsg at e
  obtain ⟨⟨r, e1⟩, ea, e⟩ := Res.bind_ok e
  obtain ⟨⟨r', e2⟩, eb, e⟩ := Res.bind_ok e
  have eb := Res.ofO_ok eb
  dsimp only at e
  split at e
  · rename_i hi
    cases e
    refine s σ H env l r e1 h ea _ fun v H1 h1 => ?_
    obtain ⟨h2, hv⟩ := h1.asg eb
    exact post _ H1 ⟨by rw [List.length_set, List.length_set]; exact h2.len, h2.rep.asg h2.len hi⟩ (keep_set hk)
  · cases e
theorem ss_set {pos' : Pos} (hN : X.N.Nodup) (hi : X.N[i]? = some x) (hx : Loc X.env.scope x) (he : SE X e fa) (hk : i ∉ ks := by decide) (hs : swapsWith e (some (.Name x pos')) pos.line X.env = pure false := by rfl) (hf : X.fn x = true ∨ X.env.scope.names.lookup x = some .local := by first | exact .inl rfl | exact .inr rfl | assumption) :
    SS X ks (.Assign [.Name x pos'] e pos) (fAsg i fa) := by
  obtain ⟨t, p, s⟩ := he.ex
  exact ⟨_, ps_set hN hi hx p hs hf, sem_asg s hk⟩
def fDrop (fa : EvF) : EvS := fun env => do
  let (_, e1) ← fa env
  .ok (.nx e1)
theorem ss_expr (he : SE X e fa) (hs : swapsWith e none pos.line X.env = pure false := by rfl) : SS X ks (.Expr e pos) (fDrop fa) := by
  obtain ⟨t, p, s⟩ := he.ex
  refine ⟨_, ps_expr p hs, ?_⟩
  intro σ H env l o h e D post
  obtain ⟨⟨r, e1⟩, ea, e⟩ := Res.bind_ok e
  cases e
  exact s σ H env l r e1 h ea _ fun v H1 h1 => post σ H1 h1.drop .refl
/-- a value to hand back: a slot's own goes along -/
def retR (env : Lo) : Sl → Option (Sl × Lo)
  | .vw i => match env[i]? with
    | some (.vw _) => none
    | some s => some (s, env.set i .no)
    | none => none
  | .no => none
  | r => some (r, env)
theorem HoldV.ret {K : PySem.W.Frag} {mg : Str → Option Value} {H : Hp} {σ : L2.St} {env env' : Lo} {l : List Item} {v : V} {r r' : Sl} (h : HoldV K mg H σ env l v r) (e : retR env r = some (r', env')) : HoldV K mg H σ env' l v r' ∧ isVw r' = false := by
  cases r with
  | no => cases e
  | vw i =>
    have e1 := h.vw i rfl
    unfold retR at e
    dsimp only at e
    cases hs : env[i]? with
    | none => rw [hs] at e; cases e
    | some s =>
      rw [hs] at e
      have hn : isVw s = false := by cases s <;> first | rfl | (cases e)
      have e : some (s, env.set i .no) = some (r', env') := by cases s <;> first | exact e | (cases e)
      cases e
      obtain ⟨ov, e3, rp⟩ := Hold.take h.drop hs
      rw [e1] at e3; cases e3
      exact ⟨⟨by rw [List.length_set]; exact h.len, rp, fun j z => by subst z; cases hn⟩, hn⟩
  | sh d => cases e; exact ⟨h, rfl⟩
  | ol ds => cases e; exact ⟨h, rfl⟩
  | od _ => cases e; exact ⟨h, rfl⟩
  | oi _ _ => cases e; exact ⟨h, rfl⟩
  | sc _ => cases e; exact ⟨h, rfl⟩
def fRet (fa : EvF) : EvS := fun env => do
  let (r, e1) ← fa env
  let (r', e2) ← Res.ofO (retR e1 r)
  .ok (.rt r' e2)
theorem ss_ret (he : SE X e fa) : SS X ks (.Return (some e) pos) (fRet fa) := by
  obtain ⟨t, p, s⟩ := he.ex
  refine ⟨_, ps_ret p, ?_⟩
  intro σ H env l o h e D post
  obtain ⟨⟨r, e1⟩, ea, e⟩ := Res.bind_ok e
  obtain ⟨⟨r', e2⟩, eb, e⟩ := Res.bind_ok e
  have eb := Res.ofO_ok eb
  cases e
  refine s σ H env l r e1 h ea _ fun v H1 h1 => ?_
  obtain ⟨h2, hv⟩ := h1.ret eb
  exact post v σ H1 h2 hv .refl
def fRetN : EvS := fun env => .ok (.rt (.sh .none) env)
theorem ss_retN : SS X ks (.Return none pos) fRetN := ⟨_, ps_retN, fun σ H env l o h e D p => by cases e; exact p _ σ H (h.shV fun _ => .non) rfl .refl⟩
def fIfS (ft : EvT) (f g : EvS) : EvS := fun env => do
  let (b, e1) ← ft env
  if b = true then f e1 else g e1
theorem ss_if {c : Expr} {a b : List Stmt} {fc : EvT} (hc : ST X c fc) (ha : SSs X ks a f) (hb : SSs X ks b g) : SS X ks (.If c a b pos) (fIfS fc f g) := by
  obtain ⟨t0, p0, s0⟩ := hc.ex
  obtain ⟨t, p, s⟩ := ha.ex
  obtain ⟨t', p', s'⟩ := hb.ex
  refine ⟨_, ps_if p0 p p', ?_⟩
  intro σ H env l o h e D post
  obtain ⟨⟨k, e1⟩, ea, e⟩ := Res.bind_ok e
  refine s0 σ H env l k e1 h ea _ fun H1 h1 => ?_
  cases k with
  | true => exact iteT (s σ H1 e1 l o h1 e D post)
  | false => exact iteF (s' σ H1 e1 l o h1 e D post)

/-! ### while -/
def whileF (c : EvT) (b : EvS) : Nat → EvS
  | 0, _ => .bad
  | n + 1, env => do
    let (k, e1) ← c env
    if k = true then
      match ← b e1 with
      | .nx e2 => whileF c b n e2
      | .ct e2 => whileF c b n e2
      | .bk e2 => .ok (.nx e2)
      | .rt r e2 => .ok (.rt r e2)
    else .ok (.nx e1)
def fWhile (fuel : Lo → Nat) (c : EvT) (b : EvS) : EvS := fun env => whileF c b (fuel env) env
theorem ss_while {c : Expr} {fc : EvT} (fuel : Lo → Nat) (hp : PassesOwn (model X.prog X.w) X.A X.env X.xe) (hc : ST X c fc) (hb : SSs X ks body f) : SS X ks (.While c body [] pos) (fWhile fuel fc f) := by
  obtain ⟨t0, p0, s0⟩ := hc.ex
  obtain ⟨t, p, s⟩ := hb.ex
  refine ⟨_, ps_while hp p0 p, ?_⟩
  intro σ H env l o h e D post
  refine ⟨fun m σ' H' => KeepEq ks σ σ' ∧ ∃ env', Hold X.K X.mg H' σ' env' l ∧ whileF fc f m env' = .ok o, ⟨fuel env, .refl, env, h, e⟩, ?_⟩
  rintro m σ1 H1 ⟨k1, env1, h1, e1⟩
  cases m with
  | zero => cases e1
  | succ m =>
    unfold whileF at e1
    obtain ⟨⟨k, e2⟩, ea, e1⟩ := Res.bind_ok e1
    refine s0 σ1 H1 env1 l k e2 h1 ea _ fun H2 h2 => ?_
    cases k with
    | false => cases e1; exact iteF (post σ1 H2 h2 k1)
    | true =>
      refine iteT ⟨fun σ' H' => KeepEq ks σ σ' ∧ ∃ env', Hold X.K X.mg H' σ' env' l ∧ whileF fc f m env' = .ok o, fun σ' H' q => ⟨m, Nat.lt_succ_self m, q⟩, ?_⟩
      simp only [if_true] at e1
      obtain ⟨ob, eb, e1⟩ := Res.bind_ok e1
      refine s σ1 H2 e2 l ob h2 eb _ ?_
      cases ob with
      | nx e3 => exact fun σ' H' h' k' => ⟨k1.trans k', e3, h', e1⟩
      | ct e3 => exact fun σ' H' h' k' => ⟨k1.trans k', e3, h', e1⟩
      | bk e3 => cases e1; exact fun σ' H' h' k' => post σ' H' h' (k1.trans k')
      | rt r e3 => cases e1; exact fun v σ' H' h' n k' => post v σ' H' h' n (k1.trans k')
end
end FL

/-! FL6: targets, what is walked, for, comprehensions -/
namespace FL
open PySem PySem.Spec PyProof.Rows L2

/-! ### targets -/
inductive Tgt where
  | nm (i : Nat)
  | tp (is : List Nat)
def Tgt.slots : Tgt → List Nat
  | .nm i => [i]
  | .tp is => is
def setAll (env : Lo) : List Nat → List D → Option Lo
  | [], [] => some env
  | i :: is, d :: ds => if i < env.length then setAll (env.set i (.sh d)) is ds else none
  | _, _ => none
def bindT : Tgt → D → Lo → Option Lo
  | .nm i, d, env => if i < env.length then some (env.set i (.sh d)) else none
  | .tp is, .tuple ds, env => setAll env is ds
  | _, _, _ => none
def OffEq (is : List Nat) (σ σ' : L2.St) : Prop := σ'.length = σ.length ∧ ∀ k, k ∉ is → σ'[k]? = σ[k]?
def SemG (K : PySem.W.Frag) (mg : Str → Option Value) (g : TG) (tg : Tgt) : Prop :=
  ∀ (σ : L2.St) (H : Hp) (env env' : Lo) (l : List Item) (v : V) (d : D), Hold K mg H σ env ((some v, .sh d) :: l) → bindT tg d env = some env' → ∀ Q : L2.St → Hp → Prop, (∀ σ', Hold K mg H σ' env' l → OffEq tg.slots σ σ' → Q σ' H) → g v σ H Q
theorem semg_nm {K : PySem.W.Frag} {mg : Str → Option Value} {i : Nat} : SemG K mg (gName i) (.nm i) := by
  intro σ H env env' l v d h e Q q
  have e : (if i < env.length then some (env.set i (.sh d)) else none) = some env' := e
  split at e
  · rename_i hi
    cases e
    refine q _ ⟨by rw [List.length_set, List.length_set]; exact h.len, Rep.asg (h.rep.perm perm_mid.symm) h.len hi⟩ ⟨by rw [List.length_set], fun k hk => List.getElem?_set_ne (fun z => hk (by simp [Tgt.slots, z]))⟩
  · cases e
def gNames : List Nat → TGs
  | [] => gNil
  | i :: is => gCons (gName i) (gNames is)
theorem setAll_ok {K : PySem.W.Frag} {mg : Str → Option Value} {H : Hp} {l : List Item} : ∀ {is : List Nat} {ds : List D} {σ : L2.St} {env env' : Lo} {vs : List V} {Q : L2.St → Hp → Prop}, vs.length = ds.length → Hold K mg H σ env ((vs.map some).zip (ds.map Sl.sh) ++ l) → setAll env is ds = some env' →
    (∀ σ', Hold K mg H σ' env' l → OffEq is σ σ' → Q σ' H) → gNames is vs σ H Q
  | [], [], σ, env, env', vs, Q, hl, h, e, q => by
    cases e
    have : vs = [] := by simpa using hl
    subst this
    exact ⟨rfl, q σ h ⟨rfl, fun _ _ => rfl⟩⟩
  | [], _ :: _, _, _, _, _, _, _, _, e, _ => by cases e
  | _ :: _, [], _, _, _, _, _, _, _, e, _ => by cases e
  | i :: is, d :: ds, σ, env, env', vs, Q, hl, h, e, q => by
    cases vs with
    | nil => simp at hl
    | cons v vs =>
      unfold setAll at e
      split at e
      · rename_i hi
        have h0 : Rep K mg H ((some v, Sl.sh d) :: (σ.zip env ++ ((vs.map some).zip (ds.map Sl.sh) ++ l))) := h.rep.perm perm_mid.symm
        refine ⟨v, vs, rfl, setAll_ok (σ := σ.set i (some v)) (env := env.set i (.sh d)) (by simpa using hl) ⟨by rw [List.length_set, List.length_set]; exact h.len, h0.asg h.len hi⟩ e fun σ' h' o => q σ' h' ⟨by rw [o.1, List.length_set], fun k hk => ?_⟩⟩
        rw [List.mem_cons, not_or] at hk
        rw [o.2 k hk.2, List.getElem?_set_ne (fun z => hk.1 z.symm)]
      · cases e
theorem dtAll_items {K : PySem.W.Frag} {mg : Str → Option Value} {G H : Hp} {L : List Item} {os : List Addr} (h : Rp K mg G H L os) : ∀ {vs : List V} {ds : List D}, DtAll K G vs ds → Rp K mg G H ((vs.map some).zip (ds.map Sl.sh) ++ L) os
  | _, _, .nil => h
  | _, _, .cons r t => (dtAll_items h t).sh r
theorem semg_tp {K : PySem.W.Frag} {mg : Str → Option Value} {is : List Nat} : SemG K mg (gTup K is.length (gNames is)) (.tp is) := by
  intro σ H env env' l v d h e Q q
  cases d <;> first | (cases e; done) | skip
  rename_i ds
  obtain ⟨G, os, rp⟩ := h.rep
  obtain ⟨v', ev, dd⟩ := rp.shOf (List.mem_append_right _ List.mem_cons_self)
  cases ev
  cases dd with
  | @tup a xs _ hs ha =>
    have e : setAll env is ds = some env' := e
    have hlen : ∀ {is : List Nat} {ds : List D} {env env' : Lo}, setAll env is ds = some env' → ds.length = is.length := by
      intro is
      induction is with
      | nil => intro ds env env' e; cases ds <;> first | rfl | cases e
      | cons i is ih =>
        intro ds env env' e
        cases ds with
        | nil => cases e
        | cons d ds =>
          unfold setAll at e
          split at e
          · simp [ih e]
          · cases e
    refine ⟨a, xs, rfl, sameTup rp.same hs, by rw [ha.length, hlen e], ?_⟩
    refine setAll_ok (by rw [ha.length]) ⟨h.len, ?_⟩ e q
    have := dtAll_items rp ha
    refine Rep.perm (Rep.tail (Rep.perm ⟨_, _, this⟩ (l' := (some (V.ref a), Sl.sh (.tuple ds)) :: ((xs.map some).zip (ds.map Sl.sh) ++ (σ.zip env ++ l))) ?_)) ?_
    · exact (List.Perm.append_left _ perm_mid.symm).trans perm_mid.symm
    · rw [← List.append_assoc, ← List.append_assoc]
      exact List.perm_append_comm.append_right l

/-! ### what is walked -/
abbrev EvI := Lo → Res (List Sl × List D × Lo)
def ItOk (K : PySem.W.Frag) (mg : Str → Option Value) (J : It) (its : List Item) (ds : List D) : Prop :=
  ∀ (i : Nat) (G H : Hp) (os : List Addr) (L : List Item), Rp K mg G H L os → (∀ it ∈ its, it ∈ L) →
    (∀ d, ds[i]? = some d → J.go i H ∧ ∀ x H', J.yld i H x H' → ∃ G', Grow G H G' H' ∧ Dt K G' x d) ∧ (i = ds.length → J.stop i H)
def SemI (K : PySem.W.Frag) (mg : Str → Option Value) (w : TI) (f : EvI) : Prop :=
  ∀ (σ : L2.St) (H : Hp) (env : Lo) (l : List Item) (ks : List Sl) (ds : List D) (env' : Lo), Hold K mg H σ env l → f env = .ok (ks, ds, env') → ∀ R : It → Hp → Prop,
    (∀ J vs H', HoldA K mg H' σ env' l vs ks → ItOk K mg J ((vs.map some).zip ks) ds → R J H') → w σ H R
structure SI (X : Cx) (tg e : Expr) (f : EvI) : Prop where
  ex : ∃ w, PI X tg e w ∧ SemI X.K X.mg w f
theorem HoldV.toA {K : PySem.W.Frag} {mg : Str → Option Value} {H : Hp} {σ : L2.St} {env : Lo} {l : List Item} {v : V} {r : Sl} (h : HoldV K mg H σ env l v r) : HoldA K mg H σ env l [v] [r] :=
  ⟨h.len, h.rep, rfl, fun k v' r' e1 e2 => by
    cases k with
    | zero => simp at e1 e2; subst e1; subst e2; exact h.vw
    | succ k => simp at e1⟩
theorem itok_list {K : PySem.W.Frag} {mg : Str → Option Value} {v : V} {ds : List D} {a : Addr} (hv : v = .ref a) {s : Sl} (hs : s = .sh (.list ds) ∨ s = .ol ds) : ItOk K mg (Itl K a) [(some v, s)] ds := by
  intro i G H os L rp hm
  have hm1 : (some v, s) ∈ L := hm _ (by simp)
  have key : ∃ vs, SqL K H a vs ∧ DtAll K G vs ds := by
    subst hv
    rcases hs with rfl | rfl
    · obtain ⟨v', e, d⟩ := rp.shOf hm1
      cases e
      cases d with
      | lst h1 h2 => exact ⟨_, .of (rp.same _ _ h1), h2⟩
    · obtain ⟨o, ri⟩ := rp.rl.mem hm1
      obtain ⟨p, vs, e, _, hp, ha⟩ := ri.ol_inv
      cases e
      exact ⟨vs, .of hp, ha⟩
  obtain ⟨vs, h1, h2⟩ := key
  refine ⟨fun d hd => ?_, fun hi => ⟨vs, h1, by rw [h2.length]; omega⟩⟩
  obtain ⟨x, e1, e2⟩ := h2.get hd
  refine ⟨⟨vs, x, h1, e1⟩, fun y H' hy => ?_⟩
  obtain ⟨rfl, hy⟩ := hy
  have := hy vs h1
  rw [e1] at this; cases this
  exact ⟨G, .refl, e2⟩
theorem itok_tup {K : PySem.W.Frag} {mg : Str → Option Value} {v : V} {ds : List D} {a : Addr} (hv : v = .ref a) : ItOk K mg (Itt K a) [(some v, .sh (.tuple ds))] ds := by
  intro i G H os L rp hm
  have hm1 : (some v, Sl.sh (.tuple ds)) ∈ L := hm _ (by simp)
  have key : ∃ vs, SqT K H a vs ∧ DtAll K G vs ds := by
    subst hv
    obtain ⟨v', e, d⟩ := rp.shOf hm1
    cases e
    cases d with
    | tup h1 h2 => exact ⟨_, sameTup rp.same h1, h2⟩
  obtain ⟨vs, h1, h2⟩ := key
  refine ⟨fun d hd => ?_, fun hi => ⟨vs, h1, by rw [h2.length]; omega⟩⟩
  obtain ⟨x, e1, e2⟩ := h2.get hd
  refine ⟨⟨vs, x, h1, e1⟩, fun y H' hy => ?_⟩
  obtain ⟨rfl, hy⟩ := hy
  have := hy vs h1
  rw [e1] at this; cases this
  exact ⟨G, .refl, e2⟩
/-- a list or a tuple by its value -/
def fIter (fa : EvF) : EvI := fun env => do
  let (r, e1) ← fa env
  let (d, e2) ← Res.ofO (freezeR e1 r)
  match d with
  | .list ds => .ok ([.sh (.list ds)], ds, e2)
  | .tuple ds => .ok ([.sh (.tuple ds)], ds, e2)
  | _ => .bad
def iSeq (K : PySem.W.Frag) (te : TE) : TI := fun σ H R => te σ H fun x H1 => (∃ a, x = .ref a ∧ (∃ xs, SqL K H1 a xs) ∧ R (Itl K a) H1) ∨ ∃ a, x = .ref a ∧ (∃ xs, SqT K H1 a xs) ∧ R (Itt K a) H1
section
variable {X : Cx} {tg e : Expr} {fa fb : EvF} {te : TE}
theorem pi_seq (he : PE X e te) : PI X tg e (iSeq X.K te) := by
  refine ⟨fun pins s σ H R I h => thn (he.run pins s σ H _ I h) fun v s1 ⟨x, H1, I1, rx, q1⟩ => ?_⟩
  have fr : ∀ b ∈ [s1.heap.objs.size], FpOk X pins H1 b := fun b hb => by
    rw [List.mem_singleton] at hb
    rw [hb]
    exact I1.fpOk (Nat.le_refl _) (I1.hok.fresh (Nat.le_refl _))
  rcases q1 with ⟨a, rfl, ⟨xs, hq⟩, q⟩ | ⟨a, rfl, ⟨xs, hq⟩, q⟩
  · cases rx
    obtain ⟨its, _, pl, _⟩ := I1.list hq
    exact wpAny_pyIter_list pl.isList ⟨_, [s1.heap.objs.size], _, Itl X.K a, H1, rfl, I1.kept (t' := s1.toks) fun b o eb => Heap.get?_push_of_some _ eb, turn_list a _, ⟨_, Heap.get?_push_size _ rfl, rfl, rfl⟩, fr, q⟩
  · cases rx
    obtain ⟨its, _, pt, _⟩ := I1.tuple hq
    exact wpAny_pyIter_tuple (show s1.heap.IsTuple a its.toArray from pt) ⟨_, [s1.heap.objs.size], _, Itt X.K a, H1, rfl, I1.kept (t' := s1.toks) fun b o eb => Heap.get?_push_of_some _ eb, turn_tuple a _, ⟨_, Heap.get?_push_size _ rfl, rfl, rfl⟩, fr, q⟩
theorem si_val (he : SE X e fa) : SI X tg e (fIter fa) := by
  obtain ⟨t, p, s⟩ := he.ex
  refine ⟨_, pi_seq p, ?_⟩
  intro σ H env l ks ds env' h e R q
  unfold fIter at e
  obtain ⟨⟨r, e1⟩, ea, e⟩ := Res.bind_ok e
  obtain ⟨⟨d, e2⟩, eb, e⟩ := Res.bind_ok e
  replace eb := Res.ofO_ok eb
  refine s σ H env l r e1 h ea _ fun v H1 h1 => ?_
  have h2 := h1.freeze eb
  obtain ⟨G, os, rp⟩ := h2.rep
  obtain ⟨v', ev, dd⟩ := rp.shOf List.mem_cons_self
  cases ev
  cases dd <;> first | (cases e; done) | skip
  case lst a xs ds' hs ha =>
    cases e
    exact .inl ⟨a, rfl, ⟨xs, .of (rp.same _ _ hs)⟩, q _ [_] H1 h2.toA (itok_list rfl (.inl rfl))⟩
  case tup a xs ds' hs ha =>
    cases e
    exact .inr ⟨a, rfl, ⟨xs, sameTup rp.same hs⟩, q _ [_] H1 h2.toA (itok_tup rfl)⟩
/-- range(n), range(a, b) -/
def rngD (lo : Int) (n : Nat) : List D := (List.range n).map fun (i : Nat) => PyData.int (lo + i)
theorem itok_rng {K : PySem.W.Frag} {mg : Str → Option Value} {lo : Int} {n : Nat} : ItOk K mg (Itr lo n) [] (rngD lo n) := by
  intro i G H os L rp _
  have hl : (rngD lo n).length = n := by simp [rngD]
  refine ⟨fun d hd => ?_, fun hi => by rw [hl] at hi; show n ≤ i; omega⟩
  have hi : i < n := by
    have := (List.getElem?_eq_some_iff.mp hd).1
    rw [hl] at this; exact this
  refine ⟨hi, fun y H' hy => ?_⟩
  obtain ⟨rfl, rfl⟩ := hy
  have : d = .int (lo + i) := by
    unfold rngD at hd
    rw [List.getElem?_map, List.getElem?_range hi] at hd
    cases hd; rfl
  subst this
  exact ⟨G, .refl, .int _⟩
def fRng (fs : EvA) : EvI := fun env => do
  let (rs, e1) ← fs env
  match rs with
  | [.sh (.int j)] => if -(2 ^ 62) ≤ j ∧ j < 2 ^ 62 then .ok ([], rngD 0 j.toNat, e1) else .bad
  | [.sh (.int i), .sh (.int j)] => if -(2 ^ 62) ≤ i ∧ i < 2 ^ 62 ∧ -(2 ^ 62) ≤ j ∧ j < 2 ^ 62 then .ok ([], rngD i (j - i).toNat, e1) else .bad
  | _ => .bad
theorem HoldA.none {K : PySem.W.Frag} {mg : Str → Option Value} {H : Hp} {σ : L2.St} {env : Lo} {l : List Item} {vs : List V} {rs : List Sl} (h : HoldA K mg H σ env l vs rs) : HoldA K mg H σ env l [] [] :=
  ⟨h.len, Rep.dropA _ h.rep, rfl, fun k v r e => by simp at e⟩
theorem HoldA.int1 {K : PySem.W.Frag} {mg : Str → Option Value} {H : Hp} {σ : L2.St} {env : Lo} {l : List Item} {vs : List V} {ns : List Int} (h : HoldA K mg H σ env l vs (ns.map fun i => Sl.sh (.int i))) : vs = ns.map V.int := by
  obtain ⟨G, os, rp⟩ := h.rep
  have e : (ns.map fun i => Sl.sh (.int i)) = (ns.map PyData.int).map Sl.sh := by simp
  have hl : vs.length = (ns.map PyData.int).length := by have := h.alen; simpa using this
  rw [e] at rp
  exact (rp.all hl fun it hi => List.mem_append_left _ hi).of_ints
theorem si_rng1 {a : Expr} {fs : EvA} {p pos : Pos} (hg : Gl X "range") (hm : X.mg "range" = none) (ha : SA X [a] fs) (hs : starEach [a] X.env = [(false, eval a X.env)] := by rfl) (hn : ArN fs 1 := by exact ar_cons ar_nil) : SI X tg (.Call (.Name "range" p) [a] [] pos) (fRng fs) := by
  obtain ⟨t, p', s⟩ := ha.ex
  refine ⟨_, pi_range1 hg hm p' hs, ?_⟩
  intro σ H env l ks ds env' h e R q
  unfold fRng at e
  obtain ⟨⟨rs, e1⟩, ea, e⟩ := Res.bind_ok e
  have har := hn.eq _ _ _ ea
  refine s σ H env l rs e1 h ea _ fun vs H1 h1 => ?_
  dsimp only at e
  split at e
  · rename_i j
    split at e
    · rename_i hj
      cases e
      have : vs = [V.int j] := HoldA.int1 (ns := [j]) h1
      subst this
      exact ⟨j, rfl, hj.1, hj.2, q _ [] H1 h1.none itok_rng⟩
    · cases e
  · simp at har
  · cases e
theorem si_rng2 {a b : Expr} {fs : EvA} {p pos : Pos} (hg : Gl X "range") (hm : X.mg "range" = none) (ha : SA X [a, b] fs) (hs : starEach [a, b] X.env = [(false, eval a X.env), (false, eval b X.env)] := by rfl) (hs2 : starEach [b] X.env = [(false, eval b X.env)] := by rfl) (hn : ArN fs 2 := by exact ar_cons (ar_cons ar_nil)) :
    SI X tg (.Call (.Name "range" p) [a, b] [] pos) (fRng fs) := by
  obtain ⟨t, p', s⟩ := ha.ex
  refine ⟨_, pi_range2 hg hm p' hs hs2, ?_⟩
  intro σ H env l ks ds env' h e R q
  unfold fRng at e
  obtain ⟨⟨rs, e1⟩, ea, e⟩ := Res.bind_ok e
  have har := hn.eq _ _ _ ea
  refine s σ H env l rs e1 h ea _ fun vs H1 h1 => ?_
  dsimp only at e
  split at e
  · simp at har
  · rename_i i j
    split at e
    · rename_i hj
      cases e
      have : vs = [V.int i, V.int j] := HoldA.int1 (ns := [i, j]) h1
      subst this
      exact ⟨i, j, rfl, hj, q _ [] H1 h1.none itok_rng⟩
    · cases e
  · cases e
end

/-! ### for -/
def loopF (tg : Tgt) (b : EvS) : List D → EvS
  | [], env => .ok (.nx env)
  | d :: ds, env => do
    let e1 ← Res.ofO (bindT tg d env)
    match ← b e1 with
    | .nx e2 => loopF tg b ds e2
    | .ct e2 => loopF tg b ds e2
    | .bk e2 => .ok (.nx e2)
    | .rt r e2 => .ok (.rt r e2)
def fFor (fi : EvI) (tg : Tgt) (b : EvS) : EvS := fun env => do
  let (_, ds, e1) ← fi env
  loopF tg b ds e1
theorem keep_off {ks is : List Nat} {σ σ' : L2.St} (h : ∀ k ∈ ks, k ∉ is) (o : OffEq is σ σ') : KeepEq ks σ σ' := fun k hk => o.2 k (h k hk)
theorem Rep.dropM {K : PySem.W.Frag} {mg : Str → Option Value} {H : Hp} {A M L : List Item} (h : Rep K mg H (A ++ (M ++ L))) : Rep K mg H (A ++ L) := by
  refine Rep.dropA M (h.perm ?_)
  rw [← List.append_assoc, ← List.append_assoc]
  exact List.perm_append_comm.append_right L
theorem sem_loop {K : PySem.W.Frag} {mg : Str → Option Value} {ks : List Nat} {g : TG} {tg : Tgt} {tb : TS} {b : EvS} (sg : SemG K mg g tg) (sb : SemS K mg ks tb b) (hk : ∀ k ∈ ks, k ∉ tg.slots) {J : It} {its : List Item} {ds : List D} (ok : ItOk K mg J its ds)
    {σ : L2.St} {H : Hp} {env : Lo} {l : List Item} {o : Out} (h : Hold K mg H σ env (its ++ l)) (e : loopF tg b ds env = .ok o) {D : Ends} (post : PostS K mg D ks σ (its ++ l) o) :
    ∃ W : Nat → Nat → L2.St → Hp → Prop, (∃ m, W 0 m σ H) ∧ ∀ i m σ H, W i m σ H →
      (J.stop i H ∧ D.nx σ H) ∨ (J.go i H ∧ ∃ N : L2.St → Hp → Prop, (∀ σ' H', N σ' H' → ∃ m', m' < m ∧ W (i + 1) m' σ' H') ∧ ∀ x H', J.yld i H x H' → g x σ H' fun σ2 H2 => tb { D with nx := N, ct := N, bk := D.nx } σ2 H2) := by
  refine ⟨fun i m σ' H' => m + i = ds.length ∧ KeepEq ks σ σ' ∧ ∃ env', Hold K mg H' σ' env' (its ++ l) ∧ loopF tg b (ds.drop i) env' = .ok o, ⟨ds.length, rfl, .refl, env, h, e⟩, ?_⟩
  rintro i m σ1 H1 ⟨hm, k1, env1, h1, e1⟩
  obtain ⟨G, os, rp⟩ := h1.rep
  obtain ⟨okg, oks⟩ := ok i G H1 os _ rp fun it hi => List.mem_append_right _ (List.mem_append_left _ hi)
  by_cases hi : i < ds.length
  · have hd : ds[i]? = some ds[i] := List.getElem?_eq_getElem hi
    obtain ⟨go, yl⟩ := okg _ hd
    rw [List.drop_eq_getElem_cons hi] at e1
    unfold loopF at e1
    obtain ⟨e2, eb, e1⟩ := Res.bind_ok e1
    replace eb := Res.ofO_ok eb
    obtain ⟨ob, ec, e1⟩ := Res.bind_ok e1
    refine .inr ⟨go, fun σ' H' => KeepEq ks σ σ' ∧ ∃ env', Hold K mg H' σ' env' (its ++ l) ∧ loopF tg b (ds.drop (i + 1)) env' = .ok o, fun σ' H' q => ⟨m - 1, by omega, by omega, q⟩, fun x H2 hy => ?_⟩
    obtain ⟨G', gr, dd⟩ := yl x H2 hy
    have h2 : Hold K mg H2 σ1 env1 ((some x, .sh ds[i]) :: (its ++ l)) := ⟨h1.len, Rep.perm ⟨_, _, (rp.grow gr).sh dd⟩ perm_mid⟩
    refine sg σ1 H2 env1 e2 _ x _ h2 eb _ fun σ2 h3 off => ?_
    have k2 : KeepEq ks σ σ2 := k1.trans (keep_off hk off)
    refine sb σ2 H2 e2 _ ob h3 ec _ ?_
    cases ob with
    | nx e3 => exact fun σ' H' h' k' => ⟨k2.trans k', e3, h', e1⟩
    | ct e3 => exact fun σ' H' h' k' => ⟨k2.trans k', e3, h', e1⟩
    | bk e3 => cases e1; exact fun σ' H' h' k' => post σ' H' h' (k2.trans k')
    | rt r e3 => cases e1; exact fun v σ' H' h' n k' => post v σ' H' h' n (k2.trans k')
  · rw [List.drop_eq_nil_of_le (by omega)] at e1
    cases e1
    exact .inl ⟨oks (by omega), post σ1 H1 h1 k1⟩
theorem PostS.more {K : PySem.W.Frag} {mg : Str → Option Value} {D : Ends} {ks : List Nat} {σ : L2.St} {M l : List Item} {o : Out} (p : PostS K mg D ks σ l o) : PostS K mg D ks σ (M ++ l) o := by
  have hh : ∀ {H' : Hp} {σ' : L2.St} {e : Lo}, Hold K mg H' σ' e (M ++ l) → Hold K mg H' σ' e l := fun h => ⟨h.len, h.rep.dropM⟩
  cases o with
  | nx e => exact fun σ' H' h q => p σ' H' (hh h) q
  | bk e => exact fun σ' H' h q => p σ' H' (hh h) q
  | ct e => exact fun σ' H' h q => p σ' H' (hh h) q
  | rt r e => exact fun v σ' H' h n q => p v σ' H' ⟨h.len, by
      have := h.rep
      rw [← List.cons_append] at this
      have q := this.dropM
      rw [List.cons_append] at q
      exact q, h.vw⟩ n q
section
variable {X : Cx} {ks : List Nat} {tg iter : Expr} {body : List Stmt} {fi : EvI} {b : EvS} {pos : Pos} {g : TG} {tt : Tgt}
theorem ss_for (hp : PassesOwn (model X.prog X.w) X.A X.env X.xe) (hc : X.calm = true) (hi : SI X tg iter fi) (hg : PG X tg g) (sg : SemG X.K X.mg g tt) (hb : SSs X ks body b) (hk : ∀ k ∈ ks, k ∉ tt.slots := by decide)
    (hs : ∀ x, foldedSetIterable iter X.env x = pure x := by intro _; rfl) : SS X ks (.For tg iter body [] pos) (fFor fi tt b) := by
  obtain ⟨w, pi, si⟩ := hi.ex
  obtain ⟨t, p, s⟩ := hb.ex
  refine ⟨_, ps_for hp hc pi hg p hs, ?_⟩
  intro σ H env l o h e D post
  unfold fFor at e
  obtain ⟨⟨ksl, ds, e1⟩, ea, e⟩ := Res.bind_ok e
  refine si σ H env l ksl ds e1 h ea _ fun J vs H1 h1 ok => ?_
  refine sem_loop sg s hk ok ⟨h1.len, ?_⟩ e post.more
  refine h1.rep.perm ?_
  rw [← List.append_assoc, ← List.append_assoc]
  exact List.perm_append_comm.append_right l
end
end FL

/-! FL7: comprehensions, a def's promise, zip, changes of one's own -/
namespace FL
open PySem PySem.Spec PyProof.Rows L2

/-! ### the reading that a function makes by itself -/
def tCan (K : PySem.W.Frag) (mg : Str → Option Value) (f : EvF) : TE := fun σ H Q => ∃ (env : Lo) (l : List Item) (r : Sl) (env' : Lo), Hold K mg H σ env l ∧ f env = .ok (r, env') ∧ ∀ v H', HoldV K mg H' σ env' l v r → Q v H'
def tCanT (K : PySem.W.Frag) (mg : Str → Option Value) (f : EvT) : TT := fun σ H Q => ∃ (env : Lo) (l : List Item) (b : Bool) (env' : Lo), Hold K mg H σ env l ∧ f env = .ok (b, env') ∧ ∀ H', Hold K mg H' σ env' l → Q b H'
theorem SE.canon {X : Cx} {e : Expr} {f : EvF} (h : SE X e f) : PE X e (tCan X.K X.mg f) := by
  obtain ⟨t, p, s⟩ := h.ex
  exact ⟨fun pins s' σ H Q I ⟨env, l, r, env', h1, h2, h3⟩ => p.run pins s' σ H Q I (s σ H env l r env' h1 h2 Q h3)⟩
theorem ST.canon {X : Cx} {e : Expr} {f : EvT} (h : ST X e f) : PT X e (tCanT X.K X.mg f) := by
  obtain ⟨t, p, s⟩ := h.ex
  exact ⟨fun pins s' σ H Q I ⟨env, l, r, env', h1, h2, h3⟩ => p.run pins s' σ H Q I (s σ H env l r env' h1 h2 Q h3)⟩

/-! ### comprehensions -/
def wipeE (env : Lo) : List Nat → Lo
  | [] => env
  | v :: vs => (wipeE env vs).set v .no
def restoreE (env : Lo) : List Nat → Lo → Lo
  | [], e => e
  | j :: js, e => restoreE env js (e.set j ((wipeE env js)[j]?.getD .no))
theorem wipeE_length (env : Lo) : ∀ vs : List Nat, (wipeE env vs).length = env.length
  | [] => rfl
  | v :: vs => by unfold wipeE; rw [List.length_set, wipeE_length env vs]
section
variable {K : PySem.W.Frag} {mg : Str → Option Value} {H : Hp} {σ : L2.St} {env : Lo} {l : List Item}
/-- a slot's item given up -/
theorem Hold.give (h : Hold K mg H σ env l) (j : Nat) : Hold K mg H (σ.set j none) (env.set j .no) l := by
  refine ⟨by rw [List.length_set, List.length_set]; exact h.len, ?_⟩
  by_cases hj : j < env.length
  · have e1 : σ[j]? = some (σ[j]'(by have := h.len; omega)) := List.getElem?_eq_getElem _
    have e2 : env[j]? = some env[j] := List.getElem?_eq_getElem hj
    obtain ⟨R, p1, p2, _⟩ := zip_perm e1 e2
    have q : Rep K mg H ((σ[j]'(by have := h.len; omega), env[j]) :: (R ++ l)) := h.rep.perm (p1.append_right l)
    exact (q.tail.no none).perm ((p2 none .no).append_right l).symm
  · rw [List.set_eq_of_length_le (by have := h.len; omega), List.set_eq_of_length_le (by omega)]
    exact h.rep
theorem Hold.wipe (h : Hold K mg H σ env l) : ∀ vs : List Nat, Hold K mg H (L2.wipe σ vs) (wipeE env vs) l
  | [] => h
  | v :: vs => (h.wipe vs).give v
/-- the block's own slots: what they held is put aside -/
theorem Hold.aside (h : Hold K mg H σ env l) : ∀ vs : List Nat, (∀ j ∈ vs, j < env.length) → ∃ sv : List Item, Hold K mg H (L2.wipe σ vs) (wipeE env vs) (sv ++ l) ∧
    ∀ H' env' L, Hold K mg H' (L2.wipe σ vs) env' (sv ++ L) → Hold K mg H' σ (restoreE env vs env') L := by
  intro vs
  induction vs with
  | nil => intro _; exact ⟨[], h, fun H' env' L h' => h'⟩
  | cons j js ih =>
    intro hlt
    obtain ⟨sv, h1, h2⟩ := ih fun i hi => hlt i (List.mem_cons_of_mem _ hi)
    have hj : j < (wipeE env js).length := by rw [wipeE_length]; exact hlt j List.mem_cons_self
    have e2 : (wipeE env js)[j]? = some (wipeE env js)[j] := List.getElem?_eq_getElem hj
    obtain ⟨ov, e1, rp⟩ := h1.take e2
    refine ⟨(ov, (wipeE env js)[j]) :: sv, ?_, fun H' env' L h' => ?_⟩
    · have hh : Hold K mg H (L2.wipe σ js) ((wipeE env js).set j .no) ((ov, (wipeE env js)[j]) :: (sv ++ l)) := ⟨by rw [List.length_set]; exact h1.len, rp.perm perm_mid⟩
      have := hh.give j
      rw [List.set_set] at this
      exact this
    · refine h2 H' _ L ?_
      have hlen : ((L2.wipe σ js).set j none).length = env'.length := h'.len
      rw [List.length_set] at hlen
      have hj2 : j < env'.length := by rw [← hlen, h1.len]; exact hj
      have hr : Rep K mg H' ((ov, (wipeE env js)[j]) :: (((L2.wipe σ js).set j none).zip env' ++ (sv ++ L))) := h'.rep.perm perm_mid.symm
      have e3 : ((L2.wipe σ js).set j none)[j]? = some none := List.getElem?_set_self (by omega)
      have e4 : env'[j]? = some env'[j] := List.getElem?_eq_getElem hj2
      obtain ⟨R, p1, p2, _⟩ := zip_perm e3 e4
      refine ⟨by rw [List.length_set]; exact hlen, ?_⟩
      rw [e2]
      have q : Rep K mg H' ((none, env'[j]) :: ((ov, (wipeE env js)[j]) :: (R ++ (sv ++ L)))) := hr.perm (((p1.append_right _).cons _).trans (.swap _ _ _))
      have q2 := q.tail.perm ((p2 ov (wipeE env js)[j]).append_right (sv ++ L)).symm
      rw [List.set_set] at q2
      have e5 : (L2.wipe σ js).set j ov = L2.wipe σ js := by
        apply List.ext_getElem?
        intro k
        by_cases hk : j = k
        · subst hk
          rw [List.getElem?_set_self (by rw [h1.len]; exact hj), e1]
        · rw [List.getElem?_set_ne hk]
      rw [e5] at q2
      exact q2
theorem wipe_get (σ : L2.St) (vs : List Nat) (k : Nat) : (L2.wipe σ vs)[k]? = if k ∈ vs then (if k < σ.length then some none else none) else σ[k]? := by
  induction vs with
  | nil => rfl
  | cons v vs ih =>
    show ((L2.wipe σ vs).set v none)[k]? = _
    by_cases h : v = k
    · subst h
      rw [if_pos List.mem_cons_self]
      split
      · rename_i hl
        exact List.getElem?_set_self (by rw [wipe_length]; exact hl)
      · rename_i hl
        rw [List.getElem?_eq_none (by rw [List.length_set, wipe_length]; omega)]
    · rw [List.getElem?_set_ne h, ih]
      have e : (k ∈ v :: vs) ↔ k ∈ vs := by simp [show ¬ k = v from fun z => h z.symm]
      simp only [e]
theorem wipe_off {σ2 : L2.St} {is vs : List Nat} (o : OffEq is (L2.wipe σ vs) σ2) (h : ∀ k ∈ is, k ∈ vs) : L2.wipe σ2 vs = L2.wipe σ vs := by
  apply List.ext_getElem?
  intro k
  have hl : σ2.length = σ.length := by rw [o.1, wipe_length]
  rw [wipe_get, wipe_get, hl]
  by_cases hk : k ∈ vs
  · rw [if_pos hk, if_pos hk]
  · rw [if_neg hk, if_neg hk, o.2 k (fun z => hk (h k z)), wipe_get, if_neg hk]
end
def compF (tg : Tgt) (ft : EvT) (fe : EvF) (own : List Nat) : List D → List D → Lo → Res (List D × Lo)
  | [], acc, env => .ok (acc, env)
  | d :: ds, acc, env => do
    let e1 ← Res.ofO (bindT tg d env)
    let (b, e2) ← ft e1
    if b = true then
      let (r, e3) ← fe e2
      let (d', e4) ← Res.ofO (freezeR e3 r)
      if acc.length < 16777216 then compF tg ft fe own ds (acc ++ [d']) (wipeE e4 own) else .bad
    else compF tg ft fe own ds acc (wipeE e2 own)
def fLc (fi : EvI) (tg : Tgt) (ft : EvT) (fe : EvF) (own : List Nat) : EvF := fun env => do
  let (_, ds, e1) ← fi env
  if ∀ j ∈ own, j < e1.length then
    let (acc, e2) ← compF tg ft fe own ds [] (wipeE e1 own)
    .ok (.ol acc, restoreE e1 own e2)
  else .bad
def fYes : EvT := fun env => .ok (true, env)
theorem semt_yes {K : PySem.W.Frag} {mg : Str → Option Value} : SemT K mg tYes fYes := fun σ H env l b env' h e Q q => by cases e; exact q H h
theorem semt_can {K : PySem.W.Frag} {mg : Str → Option Value} {f : EvT} : SemT K mg (tCanT K mg f) f := fun σ H env l b env' h e Q q => ⟨env, l, b, env', h, e, q⟩
theorem sem_lc {K : PySem.W.Frag} {mg : Str → Option Value} {w : TI} {fi : EvI} {g : TG} {tg : Tgt} {tt : TT} {ft : EvT} {fe : EvF} {own : List Nat} (si : SemI K mg w fi) (sg : SemG K mg g tg) (st : SemT K mg tt ft) (ho : ∀ k ∈ tg.slots, k ∈ own) :
    SemE K mg (tLc w g tt (tCan K mg fe) own) (fLc fi tg ft fe own) := by
  intro σ H env l r env' h e Q q
  unfold fLc at e
  obtain ⟨⟨ks, ds, e1⟩, ea, e⟩ := Res.bind_ok e
  dsimp only at e
  split at e
  · rename_i hown
    obtain ⟨⟨accF, e2⟩, eb, e⟩ := Res.bind_ok e
    cases e
    refine si σ H env l ks ds e1 h ea _ fun J vs H1 h1 ok => fun Dd hD => ?_
    -- the new list
    obtain ⟨G1, os1, rp1⟩ := h1.rep
    have h2 : Hold K mg (upd H1 Dd (.lst [])) σ e1 ((some (.ref Dd), .ol []) :: ((vs.map some).zip ks ++ l)) := ⟨h1.len, by
      have := Rp.newOl (K := K) (mg := mg) rp1 hD (.nil)
      refine Rep.perm ⟨_, _, this⟩ ?_
      refine List.Perm.trans (List.Perm.cons _ ?_) perm_mid
      rw [← List.append_assoc, ← List.append_assoc]
      exact List.perm_append_comm.append_right l⟩
    obtain ⟨sv, h3, back⟩ := h2.aside own hown
    refine ⟨fun i m H' => m + i = ds.length ∧ ∃ env3 acc, Hold K mg H' (L2.wipe σ own) env3 (sv ++ ((some (.ref Dd), .ol acc) :: ((vs.map some).zip ks ++ l))) ∧ compF tg ft fe own (ds.drop i) acc env3 = .ok (accF, e2), ⟨ds.length, rfl, _, [], h3, eb⟩, ?_⟩
    rintro i m H4 ⟨hm, env4, acc, h4, e4⟩
    obtain ⟨G4, os4, rp4⟩ := h4.rep
    obtain ⟨okg, oks⟩ := ok i G4 H4 os4 _ rp4 fun it hi => List.mem_append_right _ (List.mem_append_right _ (List.mem_cons_of_mem _ (List.mem_append_left _ hi)))
    by_cases hi : i < ds.length
    · have hd : ds[i]? = some ds[i] := List.getElem?_eq_getElem hi
      obtain ⟨go, yl⟩ := okg _ hd
      rw [List.drop_eq_getElem_cons hi] at e4
      unfold compF at e4
      obtain ⟨e5, ec, e4⟩ := Res.bind_ok e4
      replace ec := Res.ofO_ok ec
      obtain ⟨⟨b, e6⟩, et, e4⟩ := Res.bind_ok e4
      refine .inr ⟨go, fun H' => ∃ env3 acc, Hold K mg H' (L2.wipe σ own) env3 (sv ++ ((some (.ref Dd), .ol acc) :: ((vs.map some).zip ks ++ l))) ∧ compF tg ft fe own (ds.drop (i + 1)) acc env3 = .ok (accF, e2), fun H' q => ⟨m - 1, by omega, by omega, q⟩, fun x H5 hy => ?_⟩
      obtain ⟨G', gr, dd⟩ := yl x H5 hy
      have h5 : Hold K mg H5 (L2.wipe σ own) env4 ((some x, .sh ds[i]) :: (sv ++ ((some (.ref Dd), .ol acc) :: ((vs.map some).zip ks ++ l)))) := ⟨h4.len, Rep.perm ⟨_, _, (rp4.grow gr).sh dd⟩ perm_mid⟩
      refine sg _ H5 env4 e5 _ x _ h5 ec _ fun σ2 h6 off => ?_
      have hw : L2.wipe σ2 own = L2.wipe σ own := wipe_off off ho
      refine ⟨hw, ?_⟩
      refine st σ2 H5 e5 _ b e6 h6 et _ fun H6 h7 => ?_
      dsimp only at e4
      cases b with
      | false =>
        rw [if_neg Bool.false_ne_true] at e4
        refine iteF ⟨_, acc, ?_, e4⟩
        have := h7.wipe own
        rw [hw] at this
        exact this
      | true =>
        rw [if_pos rfl] at e4
        obtain ⟨⟨r, e7⟩, ef, e4⟩ := Res.bind_ok e4
        obtain ⟨⟨d', e8⟩, eg, e4⟩ := Res.bind_ok e4
        replace eg := Res.ofO_ok eg
        dsimp only at e4
        split at e4
        · rename_i hz
          refine iteT ⟨e6, _, r, e7, h7, ef, fun y H7 h8 => ?_⟩
          have h9 := h8.freeze eg
          -- the list at Dd
          have p1 : ((some y, Sl.sh d') :: (σ2.zip e8 ++ (sv ++ ((some (V.ref Dd), Sl.ol acc) :: ((vs.map some).zip ks ++ l))))).Perm ((some (V.ref Dd), Sl.ol acc) :: ((some y, Sl.sh d') :: (σ2.zip e8 ++ (sv ++ ((vs.map some).zip ks ++ l))))) := by
            refine List.Perm.trans (List.Perm.cons _ ?_) (.swap _ _ _)
            rw [← List.append_assoc, ← List.append_assoc]
            exact perm_mid.symm
          obtain ⟨G8, os8, rp8⟩ := h9.rep
          obtain ⟨os9, rp9⟩ := rp8.perm p1
          obtain ⟨o, ri⟩ := rp9.rl.mem List.mem_cons_self
          obtain ⟨p, ws, ev, _, hp, ha⟩ := ri.ol_inv
          cases ev
          obtain ⟨v', ev, dy⟩ := rp9.shOf (List.mem_cons_of_mem _ List.mem_cons_self)
          cases ev
          refine ⟨ws, hp, sizeL' (by rw [ha.length]; exact hz), wipeE e8 own, acc ++ [d'], ?_, e4⟩
          have rp10 := rp9.mut (s' := .ol (acc ++ [d'])) (o := .lst (ws ++ [y])) ol_own fun H' e => .bx (.ol e (ha.append (.one dy)))
          have h10 : Hold K mg (upd H7 Dd (.lst (ws ++ [y]))) σ2 e8 (sv ++ ((some (V.ref Dd), Sl.ol (acc ++ [d'])) :: ((vs.map some).zip ks ++ l))) := ⟨h9.len, by
            refine (Rep.tail (Rep.perm ⟨_, _, rp10⟩ (.swap _ _ _))).perm ?_
            exact perm_mid.trans (List.Perm.append_left _ perm_mid)⟩
          have := h10.wipe own
          rw [hw] at this
          exact this
        · cases e4
    · rw [List.drop_eq_nil_of_le (by omega)] at e4
      cases e4
      refine .inl ⟨oks (by omega), q _ H4 ?_⟩
      have hb := back H4 _ _ h4
      refine ⟨hb.len, ?_, fun _ z => by cases z⟩
      have : Rep K mg H4 ((some (V.ref Dd), Sl.ol accF) :: (σ.zip (restoreE e1 own e2) ++ ((vs.map some).zip ks ++ l))) := hb.rep.perm perm_mid.symm
      rw [← List.cons_append] at this
      have := this.dropM
      rw [List.cons_append] at this
      exact this
  · cases e
section
variable {X : Cx} {elt tg iter : Expr} {ifs : List Expr} {scope : Scope} {own : List (Str × Nat)} {pos spos py : Pos} {g : TG} {tt : Tgt} {fi : EvI} {ft : EvT} {fe : EvF} {i : Nat} {y : Str} {ks : List Nat}
/-- a clause's tests -/
structure STs (X : Cx) (ifs : List Expr) (f : EvT) : Prop where
  pts : PTs X ifs (tCanT X.K X.mg f)
theorem sts_nil : STs X [] fYes := ⟨⟨fun pins s σ H Q I ⟨env, l, b, env', h1, h2, h3⟩ => by cases h2; exact pts_nil.run pins s σ H Q I (h3 H h1)⟩⟩
theorem sts_one {c : Expr} (h : ST X c ft) : STs X [c] ft := ⟨pts_one h.canon⟩
theorem se_lc (hc : X.calm = true) (hN : X.N.Nodup) (hi : SI X tg iter fi) (ok : BlkOk X.N X.env.scope scope own) (sg : SemG X.K X.mg g tt) (ho : ∀ k ∈ tt.slots, k ∈ own.map (·.2))
    (hg : ∀ (s : Shared) (H : Hp) (C : Addr) (cl : List (Str × Addr)) (fp : List Addr), PG (X.blk s H scope (compEnvC scope cl C X.env) fp) tg g) (ht : ∀ (s : Shared) (H : Hp) (C : Addr) (cl : List (Str × Addr)) (fp : List Addr), STs (X.blk s H scope (compEnvC scope cl C X.env) fp) ifs ft)
    (he : ∀ (s : Shared) (H : Hp) (C : Addr) (cl : List (Str × Addr)) (fp : List Addr), SE (X.blk s H scope (compEnvC scope cl C X.env) fp) elt fe) (hs : ∀ x, foldedSetIterable iter X.env x = pure x := by intro _; rfl) :
    SE X (.ListComp elt [⟨tg, iter, ifs, 0⟩] scope pos) (fLc fi tt ft fe (own.map (·.2))) := by
  obtain ⟨w, p, s⟩ := hi.ex
  exact ⟨_, pe_lc hc hN p ok hg (fun s H C cl fp => (ht s H C cl fp).pts) (fun s H C cl fp => (he s H C cl fp).canon) hs, sem_lc s sg semt_can ho⟩
theorem ss_setLc (hc : X.calm = true) (hN : X.N.Nodup) (hy : X.N[i]? = some y) (hyl : X.env.scope.names.lookup y = some .local)
    (hsw : swapsWith (.ListComp elt [⟨tg, iter, ifs, 0⟩] scope pos) (some (.Name y py)) spos.line X.env = pure true) (hi : SI X tg iter fi) (ok : BlkOk X.N X.env.scope scope own) (sg : SemG X.K X.mg g tt) (ho : ∀ k ∈ tt.slots, k ∈ own.map (·.2))
    (hg : ∀ (s : Shared) (H : Hp) (C : Addr) (cl : List (Str × Addr)) (fp : List Addr), PG (X.blk s H scope (compEnvC scope cl C X.env) fp) tg g) (ht : ∀ (s : Shared) (H : Hp) (C : Addr) (cl : List (Str × Addr)) (fp : List Addr), STs (X.blk s H scope (compEnvC scope cl C X.env) fp) ifs ft)
    (he : ∀ (s : Shared) (H : Hp) (C : Addr) (cl : List (Str × Addr)) (fp : List Addr), SE (X.blk s H scope (compEnvC scope cl C X.env) fp) elt fe) (hk : i ∉ ks := by decide) (hs : ∀ x, foldedSetIterable iter X.env x = pure x := by intro _; rfl) :
    SS X ks (.Assign [.Name y py] (.ListComp elt [⟨tg, iter, ifs, 0⟩] scope pos) spos) (fAsg i (fLc fi tt ft fe (own.map (·.2)))) := by
  obtain ⟨w, p, s⟩ := hi.ex
  exact ⟨_, ps_setLc hc hN hy hyl hsw p ok hg (fun s H C cl fp => (ht s H C cl fp).pts) (fun s H C cl fp => (he s H C cl fp).canon) hs, sem_asg (sem_lc s sg semt_can ho) hk⟩
end

/-! ### a def's promise -/
def backArgs (io : List Nat) (n : Nat) (env : Lo) : List Sl := (List.range n).map fun k => if k ∈ io then env[k]?.getD .no else .no
/-- m slots, n parameters; io: the parameters that are never stored -/
def runFn (m n : Nat) (io : List Nat) (b : EvS) : Fn := fun args => do
  match ← b (args ++ List.replicate (m - n) .no) with
  | .nx env => if n ≤ env.length then .ok (.sh .none, backArgs io n env) else .bad
  | .rt r env => if n ≤ env.length then .ok (r, backArgs io n env) else .bad
  | _ => .bad
theorem zip_start {K : PySem.W.Frag} {mg : Str → Option Value} {H : Hp} : ∀ {vs : List V} {args : List Sl} {m : Nat} {l : List Item}, vs.length = args.length → Rep K mg H ((vs.map some).zip args ++ l) → Rep K mg H ((vs.map some ++ List.replicate m none).zip (args ++ List.replicate m Sl.no) ++ l) := by
  intro vs args m l hl h
  rw [List.zip_append (by simpa using hl), List.append_assoc]
  have key : ∀ (m : Nat) {M : List Item}, Rep K mg H M → Rep K mg H ((List.replicate m (none : Option V)).zip (List.replicate m Sl.no) ++ M) := by
    intro m
    induction m with
    | zero => intro M h; exact h
    | succ m ih => intro M h; rw [List.replicate_succ, List.replicate_succ, List.zip_cons_cons, List.cons_append]; exact (ih h).no none
  refine (key m h).perm ?_
  rw [← List.append_assoc, ← List.append_assoc]
  exact List.perm_append_comm.append_right l
theorem RL.sub {K : PySem.W.Frag} {mg : Str → Option Value} {G H : Hp} : ∀ {l l' : List Item}, l'.Sublist l → ∀ {os : List Addr}, RL K mg G H l os → ∃ os', RL K mg G H l' os' ∧ os'.Sublist os := by
  intro l l' h
  induction h with
  | slnil => intro os r; exact ⟨os, r, .refl _⟩
  | cons a _ ih =>
    intro os r
    cases r with
    | cons ri t =>
      obtain ⟨os', r', s⟩ := ih t
      exact ⟨os', r', s.trans (List.sublist_append_right _ _)⟩
  | cons_cons a _ ih =>
    intro os r
    cases r with
    | cons ri t =>
      obtain ⟨os', r', s⟩ := ih t
      exact ⟨_, .cons ri r', s.append_left _⟩
/-- back to the parameters -/
theorem back_items {K : PySem.W.Frag} {mg : Str → Option Value} {H : Hp} {vs : List V} {σ' : L2.St} {env' : Lo} {io : List Nat} {it : Item} {l : List Item} (n : Nat) (hv : vs.length = n) (hlen : σ'.length = env'.length) (hn : n ≤ env'.length)
    (hk : ∀ k ∈ io, k < n → σ'[k]? = some (vs[k]?)) (h : Rep K mg H (it :: (σ'.zip env' ++ l))) : Rep K mg H (it :: ((vs.map some).zip (backArgs io n env') ++ l)) := by
  -- prefix of the frame's items, each kept or given up
  have key : ∀ (vs : List V) (σ' : L2.St) (env' : Lo) (f : Nat → Bool) (M : List Item), vs.length ≤ env'.length → σ'.length = env'.length → (∀ k, f k = true → k < vs.length → σ'[k]? = some (vs[k]?)) → Rep K mg H (σ'.zip env' ++ M) →
      Rep K mg H ((vs.map some).zip ((List.range vs.length).map fun k => if f k = true then env'[k]?.getD .no else .no) ++ M) := by
    intro vs
    induction vs with
    | nil => intro σ' env' f M _ _ _ h; exact Rep.dropA _ h
    | cons v vs ih =>
      intro σ' env' f M h1 h2 h3 h4
      cases env' with
      | nil => simp at h1
      | cons e env' =>
        cases σ' with
        | nil => simp at h2
        | cons o σ' =>
          have h5 : Rep K mg H (σ'.zip env' ++ ((o, e) :: M)) := by
            rw [List.zip_cons_cons, List.cons_append] at h4
            exact h4.perm perm_mid
          have h6 := ih σ' env' (fun k => f (k + 1)) ((o, e) :: M) (by simpa using h1) (by simpa using h2) (fun k a b => by have := h3 (k + 1) a (by simpa using b); simpa using this) h5
          rw [List.length_cons, List.range_succ_eq_map, List.map_cons, List.map_cons, List.zip_cons_cons, List.cons_append, List.map_map]
          have e7 : (fun k => if f (k + 1) = true then env'[k]?.getD Sl.no else Sl.no) = ((fun k => if f k = true then (e :: env')[k]?.getD Sl.no else Sl.no) ∘ Nat.succ) := by
            funext k
            simp [Function.comp, Nat.succ_eq_add_one]
          rw [e7] at h6
          have h8 : Rep K mg H ((o, e) :: ((vs.map some).zip ((List.range vs.length).map ((fun k => if f k = true then (e :: env')[k]?.getD Sl.no else Sl.no) ∘ Nat.succ)) ++ M)) := h6.perm perm_mid.symm
          by_cases hf : f 0 = true
          · have eo := h3 0 hf (by simp)
            simp at eo
            subst eo
            rw [if_pos hf]
            exact h8
          · rw [if_neg hf]
            exact h8.tail.no _
  subst hv
  have h' : Rep K mg H (σ'.zip env' ++ (it :: l)) := h.perm perm_mid
  have := key vs σ' env' (fun k => decide (k ∈ io)) (it :: l) hn hlen (fun k a b => hk k (of_decide_eq_true a) b) h'
  have e : ((List.range vs.length).map fun k => if decide (k ∈ io) = true then env'[k]?.getD Sl.no else Sl.no) = backArgs io vs.length env' := by
    unfold backArgs
    congr 1
    funext k
    by_cases hk : k ∈ io
    · rw [if_pos hk, if_pos (decide_eq_true hk)]
    · rw [if_neg hk, if_neg (by simpa using hk)]
  rw [e] at this
  exact this.perm perm_mid.symm
theorem fn_ok {P : Program} {w : World} {K : PySem.W.Frag} {mg : Str → Option Value} {base : Heap} {x qual : Str} {st : Stmt} {f : Addr} {fd : FuncData} {N ps : List Str} {k : Nat} {io : List Nat} {b : EvS} (F : Fun K x qual st f fd) (S : FnScope N ps (defScope st)) (hio : ∀ k ∈ io, k < ps.length)
    (hb : ∀ (cdv : Value) (A : Around) (outer : List Env) (s : Shared) (H : Hp) (E : XK), Room k (A.deeper (envOfC qual (defScope st) s.heap.objs.size f cdv)) → SSs (cxOf CX0 P w K mg base N qual (defScope st) f cdv A outer s H E).nox io (defBody st) b) :
    FnOk P w K mg base CX0 (k + 1) f fd ps (spF K mg ps.length (runFn N.length ps.length io b)) := by
  refine F.ok S (fun vs H Q E h => h.1) fun cdv A outer s H vs Q E hr h => ?_
  obtain ⟨hl, args, l, r, args', ha, rp, e, q⟩ := h
  obtain ⟨t, p, sem⟩ := (hb cdv A outer s H E hr).ex
  refine ⟨t, p, ?_⟩
  unfold runFn at e
  obtain ⟨o, eo, e⟩ := Res.bind_ok e
  have hst : Hold K mg H (L2.start N vs) (args ++ List.replicate (N.length - ps.length) .no) l := by
    refine ⟨?_, ?_⟩
    · unfold L2.start
      rw [List.length_append, List.length_append, List.length_map, List.length_replicate, List.length_replicate, hl, ha]
    · unfold L2.start
      rw [hl]
      exact zip_start (by rw [hl, ha]) rp
  have kk : ∀ {σ' : L2.St}, KeepEq io (L2.start N vs) σ' → ∀ k ∈ io, k < ps.length → σ'[k]? = some (vs[k]?) := fun {σ'} kq k hk hlt => by
    rw [kq k hk]
    unfold L2.start
    rw [List.getElem?_append_left (by rw [List.length_map]; omega), List.getElem?_map]
    rw [List.getElem?_eq_getElem (by omega)]
    rfl
  refine sem (L2.start N vs) H _ l o hst eo _ ?_
  cases o with
  | nx env' =>
    dsimp only at e
    split at e
    · rename_i hn
      cases e
      intro σ' H' h' kq
      have hv := h'.shV (v := .non) (d := .none) fun _ => .non
      exact q .non H' (back_items ps.length hl h'.len hn (kk kq) hv.rep) rfl
    · cases e
  | rt r' env' =>
    dsimp only at e
    split at e
    · rename_i hn
      cases e
      intro v σ' H' h' hv kq
      exact q v H' (back_items ps.length hl h'.len hn (kk kq) h'.rep) hv
    · cases e
  | bk _ => cases e
  | ct _ => cases e
end FL

/-! FL8: zip of lists and tuples, enumerate, what a slot's own list becomes, unpacking, the script -/
namespace FL
open PySem PySem.Spec PyProof.Rows L2

/-! ### zip of lists and tuples in any mix -/
def sqS (K : PySem.W.Frag) (H : Hp) (tp : Bool) (a : Addr) (xs : List V) : Prop := match tp with
  | true => SqT K H a xs
  | false => SqL K H a xs
def itS (h : Heap) (it a : Addr) (i : Nat) (tp : Bool) : Prop := match tp with
  | true => h.IsTupleIter it a i
  | false => h.IsListIter it a i
def seS (h : Heap) (a : Addr) (items : Array Value) (tp : Bool) : Prop := match tp with
  | true => h.IsTuple a items
  | false => h.IsList a items
theorem seS_of {X : Cx} {pins : List (Addr × Obj)} {σ : L2.St} {H : Hp} {s : Shared} {a : Addr} {xs : List V} {tp : Bool} (I : Inv X pins σ H s) (h : sqS X.K H tp a xs) : ∃ its : List Value, Vals xs its ∧ seS s.heap a its.toArray tp ∧ a < s.heap.objs.size := by
  cases tp with
  | true =>
    obtain ⟨its, r, p, _⟩ := I.tuple h
    have p' : s.heap.IsTuple a its.toArray := p
    exact ⟨its, r, p', let ⟨_, e, _⟩ := p'; Heap.lt_size e⟩
  | false =>
    obtain ⟨its, r, p, _⟩ := I.list h
    exact ⟨its, r, p.isList, p.lt⟩
theorem sqS_inj {X : Cx} {pins : List (Addr × Obj)} {σ : L2.St} {H : Hp} {s : Shared} {a : Addr} {xs ys : List V} {tp : Bool} (I : Inv X pins σ H s) (h : sqS X.K H tp a xs) (h' : sqS X.K H tp a ys) : xs = ys := by
  cases tp with
  | true => exact I.tuple_inj h h'
  | false => exact I.list_inj h h'
theorem drS {prog : Program} {w : World} {A : Around} (hh : A.handled = none) (it l : Addr) (hne : l ≠ it) (items : Array Value) (tp : Bool) :
    Draws prog w A it [it, l] items.size (fun i v => items[i]? = some v) (fun i h => itS h it l i tp ∧ seS h l items tp) := by
  cases tp with
  | true => exact Draws.tuple hh it l hne items
  | false => exact Draws.list hh it l hne items
theorem itS.at' {h h' : Heap} {it a : Addr} {i : Nat} {tp : Bool} (x : itS h it a i tp) (k : ∀ o, h.get? it = some o → h'.get? it = some o) : itS h' it a i tp := by
  cases tp with
  | true => exact Heap.IsTupleIter.at x k
  | false => exact Heap.IsListIter.at x k
theorem itS.obj {h : Heap} {it a : Addr} {i : Nat} {tp : Bool} (x : itS h it a i tp) : ∃ o, h.get? it = some o ∧ ∀ v, o.data ≠ .cell v := by
  cases tp with
  | true => obtain ⟨o, e, _, d⟩ := x; exact ⟨o, e, fun v q => by rw [d] at q; cases q⟩
  | false => obtain ⟨o, e, _, d⟩ := x; exact ⟨o, e, fun v q => by rw [d] at q; cases q⟩
def ItzM (K : PySem.W.Frag) (ta tb : Bool) (a b : Addr) : It :=
  ⟨fun i H => ∃ (xs ys : List V) (x y : V), sqS K H ta a xs ∧ sqS K H tb b ys ∧ xs[i]? = some x ∧ ys[i]? = some y,
   fun i H v H' => ∃ T x y, v = .ref T ∧ H T = none ∧ H' = upd H T (.tup [x, y]) ∧ (∀ xs, sqS K H ta a xs → xs[i]? = some x) ∧ ∀ ys, sqS K H tb b ys → ys[i]? = some y,
   fun i H => ∃ xs ys : List V, sqS K H ta a xs ∧ sqS K H tb b ys ∧ (xs.length = i ∨ ys.length = i) ∧ i ≤ xs.length ∧ i ≤ ys.length⟩
theorem turn_zipM {P : Program} {w : World} {K : PySem.W.Frag} {elts : List Expr} {kk : Nat} {tpos : Pos} {ta tb : Bool} {a b z TI TO i1 i2 : Addr} (S : ZipSep2 z TI TO i1 i2 [i1, a] [i2, b]) :
    Turn P w K (.Tuple elts kk tpos) (ItzM K ta tb a b) [z, TI, TO, i1, i2] z (fun i h => IsZip h z TI TO .none ∧ IsTupOf2 h TI (.ref i1) (.ref i2) ∧ (∃ x y, IsTupOf2 h TO x y) ∧ itS h i1 a i ta ∧ itS h i2 b i tb) where
  mem := by simp
  obj := fun i h ⟨hz, hTI, ⟨x, y, hTO⟩, h1, h2⟩ c hc => by
    have e' : c = z ∨ c = TI ∨ c = TO ∨ c = i1 ∨ c = i2 := by simpa using hc
    rcases e' with rfl | rfl | rfl | rfl | rfl
    · exact ⟨_, hz, fun v q => nomatch q⟩
    · exact ⟨_, hTI, fun v q => nomatch q⟩
    · exact ⟨_, hTO, fun v q => nomatch q⟩
    · exact h1.obj
    · exact h2.obj
  keep := fun i h h' ⟨hz, hTI, ⟨x, y, hTO⟩, h1, h2⟩ k =>
    ⟨k z (by simp) _ hz, k TI (by simp) _ hTI, ⟨x, y, k TO (by simp) _ hTO⟩, h1.at' fun o q => k i1 (by simp) o q, h2.at' fun o q => k i2 (by simp) o q⟩
  item := by
    intro X hP hw hK hc i pins s σ H E I hf ⟨hz, hTI, ⟨x0, y0, hTO⟩, h1, h2⟩ ⟨xs, ys, x, y, hqx, hqy, hx, hy⟩
    subst hP hw hK
    obtain ⟨its, rv, p, la⟩ := seS_of I hqx
    obtain ⟨its2, rv2, p2, lb⟩ := seS_of I hqy
    obtain ⟨u, hu, ru⟩ := rv.get hx
    obtain ⟨u2, hu2, ru2⟩ := rv2.get hy
    have ha1 : a ≠ i1 := fun q => by
      subst q
      obtain ⟨o, e, d⟩ := h1.obj
      cases ta with
      | true => obtain ⟨o1, e1, c1, _⟩ := p; obtain ⟨o2, e2, c2, _⟩ := h1; rw [e1] at e2; cases e2; rw [c1] at c2; simp at c2
      | false => obtain ⟨o1, e1, c1, _⟩ := p; obtain ⟨o2, e2, c2, _⟩ := h1; rw [e1] at e2; cases e2; rw [c1] at c2; simp at c2
    have hb2 : b ≠ i2 := fun q => by
      subst q
      cases tb with
      | true => obtain ⟨o1, e1, c1, _⟩ := p2; obtain ⟨o2, e2, c2, _⟩ := h2; rw [e1] at e2; cases e2; rw [c1] at c2; simp at c2
      | false => obtain ⟨o1, e1, c1, _⟩ := p2; obtain ⟨o2, e2, c2, _⟩ := h2; rw [e1] at e2; cases e2; rw [c1] at c2; simp at c2
    have D1 := drS (prog := X.prog) (w := X.w) (A := X.A.in1) (I.ok.hd hc) i1 a ha1 its.toArray ta
    have D2 := drS (prog := X.prog) (w := X.w) (A := X.A.in1) (I.ok.hd hc) i2 b hb2 its2.toArray tb
    have hzl : z < s.heap.objs.size := Heap.lt_size hz
    have hi1 : i < its.toArray.size := by have := (List.getElem?_eq_some_iff.mp hu).1; simpa using this
    have hi2 : i < its2.toArray.size := by have := (List.getElem?_eq_some_iff.mp hu2).1; simpa using this
    refine wpAny_pyNext_zipD2_item S D1 D2 hz hTI hTO ⟨h1, p⟩ ⟨h2, p2⟩ hi1 hi2 fun x1 x2 h' tk q1 q2 z' TO' st1 st2 hT hsz hk => ?_
    have e1 : x1 = u := by
      have : its.toArray[i]? = some u := by simpa using hu
      rw [this] at q1; cases q1; rfl
    have e2 : x2 = u2 := by
      have : its2.toArray[i]? = some u2 := by simpa using hu2
      rw [this] at q2; cases q2; rfl
    subst e1 e2
    refine ⟨_, rfl, wpAny_letOwnedTupleGo_zip (s := { s with heap := h', toks := tk }) z' fun h'' z'' sb => ?_⟩
    have hT2 : h''.get? s.heap.objs.size = some { cls := .type "tuple", data := .seq #[x1, x2] } := (sb.2 _ (Nat.ne_of_gt hzl)).trans hT
    have new : ObjOk X.prog X.w (upd H s.heap.objs.size (.tup [x, y])) h'' s.heap.objs.size (.tup [x, y]) :=
      ⟨by show 2 ≤ sizeLine; decide, [x1, x2], .cons ru (.cons ru2 .nil), ⟨_, hT2, rfl, _, rfl⟩⟩
    have I1 : Inv X pins σ (upd H s.heap.objs.size (.tup [x, y])) { s with heap := h'', toks := tk } :=
      I.turnedNew (t' := tk) (ch := [z, TI, TO, i1, i2]) (fun c o hb q => (sb.2 c (fun q' => hb (by simp [q']))).trans (hk c o (fun q' => hb (by simp [q'])) (fun q' => hb (by simp [q'])) (fun q' => hb (by simp [q'])) (fun q' => hb (by simp [q'])) q)) hf (Nat.le_refl _) new
    refine ⟨.ref s.heap.objs.size, _, I1, rfl, ⟨_, x, y, rfl, I.hok.fresh (Nat.le_refl _), rfl, fun l hl => by rw [sqS_inj I hl hqx]; exact hx, fun l hl => by rw [sqS_inj I hl hqy]; exact hy⟩, ⟨z'', ?_, ⟨x1, x2, ?_⟩, ?_, ?_⟩, fun c hcm => ?_⟩
    · exact (sb.2 _ S.TIz).trans (hk _ _ S.TIz S.TITO S.TIi1 S.TIi2 hTI)
    · exact (sb.2 _ S.TOz).trans TO'
    · exact st1.1.at' fun o q => (sb.2 _ S.zi1.symm).trans q
    · exact st2.1.at' fun o q => (sb.2 _ S.zi2.symm).trans q
    · have hlt : c < s.heap.objs.size := by
        have e' : c = z ∨ c = TI ∨ c = TO ∨ c = i1 ∨ c = i2 := by simpa using hcm
        rcases e' with rfl | rfl | rfl | rfl | rfl
        · exact hzl
        · exact Heap.lt_size hTI
        · exact Heap.lt_size hTO
        · obtain ⟨_, q, _⟩ := h1.obj; exact Heap.lt_size q
        · obtain ⟨_, q, _⟩ := h2.obj; exact Heap.lt_size q
      rw [upd_ne (Nat.ne_of_lt hlt)]
      exact (hf c hcm).1
  done := by
    intro X hP hw hK hc i pins s σ H E I hf ⟨hz, hTI, ⟨x0, y0, hTO⟩, h1, h2⟩ ⟨xs, ys, hqx, hqy, hend, l1, l2⟩
    subst hP hw hK
    obtain ⟨its, rv, p, la⟩ := seS_of I hqx
    obtain ⟨its2, rv2, p2, lb⟩ := seS_of I hqy
    have ha1 : a ≠ i1 := fun q => by
      subst q
      cases ta with
      | true => obtain ⟨o1, e1, c1, _⟩ := p; obtain ⟨o2, e2, c2, _⟩ := h1; rw [e1] at e2; cases e2; rw [c1] at c2; simp at c2
      | false => obtain ⟨o1, e1, c1, _⟩ := p; obtain ⟨o2, e2, c2, _⟩ := h1; rw [e1] at e2; cases e2; rw [c1] at c2; simp at c2
    have hb2 : b ≠ i2 := fun q => by
      subst q
      cases tb with
      | true => obtain ⟨o1, e1, c1, _⟩ := p2; obtain ⟨o2, e2, c2, _⟩ := h2; rw [e1] at e2; cases e2; rw [c1] at c2; simp at c2
      | false => obtain ⟨o1, e1, c1, _⟩ := p2; obtain ⟨o2, e2, c2, _⟩ := h2; rw [e1] at e2; cases e2; rw [c1] at c2; simp at c2
    have D1 := drS (prog := X.prog) (w := X.w) (A := X.A.in1) (I.ok.hd hc) i1 a ha1 its.toArray ta
    have D2 := drS (prog := X.prog) (w := X.w) (A := X.A.in1) (I.ok.hd hc) i2 b hb2 its2.toArray tb
    have e1 : its.toArray.size = xs.length := by rw [List.size_toArray]; exact rv.length.symm
    have e2 : its2.toArray.size = ys.length := by rw [List.size_toArray]; exact rv2.length.symm
    refine wpAny_pyNext_zipD2_end S D1 D2 hz hTI hTO ⟨h1, p⟩ ⟨h2, p2⟩ (by omega) (by omega) (by omega) fun h' tk hk => ⟨rfl, I.turnedL (t' := tk) (ch := [z, TI, TO, i1, i2]) (fun c o hb q =>
      hk c o (fun q' => hb (by simp [q'])) (fun q' => hb (by simp [q'])) (fun q' => hb (by simp [q'])) (fun q' => hb (by simp [q'])) q) hf⟩
  self := fun A i s Q E st h => wpAny_pyIter_zip st.1 h
def iZipM (K : PySem.W.Frag) (t : TA) : TI := fun σ H R => t σ H fun vs H1 => ∃ ta tb a b xs ys, vs = [.ref a, .ref b] ∧ sqS K H1 ta a xs ∧ sqS K H1 tb b ys ∧ R (ItzM K ta tb a b) H1
def begO (a : Addr) (tp : Bool) : Obj := match tp with
  | true => { cls := .type "tuple_iterator", data := .fields #[.ref a, .int 0 0] }
  | false => { cls := .type "list_iterator", data := .fields #[.ref a, .int 0 0] }
theorem begS (a : Addr) (items : Array Value) (tp : Bool) : Begins (.ref a) (begO a tp) fun h => seS h a items tp := by
  cases tp with
  | true => exact begins_tuple a items
  | false => exact begins_list a items
theorem begO_it {h : Heap} {it a : Addr} {tp : Bool} (e : h.get? it = some (begO a tp)) : itS h it a 0 tp := by
  cases tp with
  | true => exact ⟨_, e, rfl, rfl⟩
  | false => exact ⟨_, e, rfl, rfl⟩
theorem pi_zipM {X : Cx} {e e2 : Expr} {t : TA} {p pos tpos : Pos} {elts : List Expr} {kk : Nat} (hg : Gl X "zip") (hm : X.mg "zip" = none) (ha : PA X [e, e2] t)
    (hs : starEach [e, e2] X.env = (false, eval e X.env) :: starEach [e2] X.env := by rfl) (hpl : (backTo pos (starEach [e2] X.env)).any (·.1) = false := by rfl) :
    PI X (.Tuple elts kk tpos) (.Call (.Name "zip" p) [e, e2] [] pos) (iZipM X.K t) := by
  refine ⟨fun pins s σ H R I h => Call_ (ld_blt I hg hm PyProof.Rows.boot_zip (PyProof.Rows.callWith_type1 (thn (ha.run pos pins s σ H _ I h) fun us s1 ⟨vs, H1, I1, r1, q1⟩ => ?_) hs hpl))⟩
  obtain ⟨ta, tb, a, b, xs, ys, ex, hqx, hqy, q⟩ := q1
  subst ex
  obtain ⟨u1, u2, rfl, ra, rb⟩ := Vals.two r1
  cases ra
  cases rb
  obtain ⟨its, rv, p1, la⟩ := seS_of I1 hqx
  obtain ⟨its2, rv2, p2, lb⟩ := seS_of I1 hqy
  refine zip_begins2 (begS a its.toArray ta) (begS b its2.toArray tb) p1 p2 fun h' hz hTI hTO h1 h2 hsz hk => wpAny_pyIter_zip hz ?_
  have I2 : Inv X pins σ H1 { s1 with heap := h' } := I1.kept (t' := s1.toks) hk
  refine ⟨s1.heap.objs.size + 4, [s1.heap.objs.size + 4, s1.heap.objs.size + 2, s1.heap.objs.size + 3, s1.heap.objs.size, s1.heap.objs.size + 1], _, _, H1, rfl, I2,
    turn_zipM (zip_sep2 (N := s1.heap.objs.size) (fp1 := [a]) (fp2 := [b]) (fun c hc => by rw [List.mem_singleton.mp hc]; exact la) fun c hc => by rw [List.mem_singleton.mp hc]; exact lb), ⟨hz, hTI, ⟨_, _, hTO⟩, begO_it h1, begO_it h2⟩, fun c hcm => ?_, q⟩
  have e' : c = s1.heap.objs.size + 4 ∨ c = s1.heap.objs.size + 2 ∨ c = s1.heap.objs.size + 3 ∨ c = s1.heap.objs.size ∨ c = s1.heap.objs.size + 1 := by simpa using hcm
  have hle : s1.heap.objs.size ≤ c := by
    rcases e' with z | z | z | z | z <;> rw [z] <;> first | exact Nat.le_add_right _ _ | exact Nat.le_refl _
  exact I1.fpOk hle (I1.hok.fresh hle)
def isTup : D → Bool
  | .tuple _ => true
  | _ => false
def seqOf : D → Option (List D)
  | .list ds => some ds
  | .tuple ds => some ds
  | _ => none
def zipD (a b : List D) : List D := List.zipWith (fun x y => PyData.tuple [x, y]) a b
def fZip (fs : EvA) : EvI := fun env => do
  let (rs, e1) ← fs env
  let (ds, e2) ← Res.ofO (freezeAll e1 rs)
  match ds with
  | [a, b] => do
    let xs ← Res.ofO (seqOf a)
    let ys ← Res.ofO (seqOf b)
    .ok ([.sh a, .sh b], zipD xs ys, e2)
  | _ => .bad
theorem seq_at {K : PySem.W.Frag} {G H : Hp} {v : V} {d : D} {xs : List D} (sm : Same G H) (h : Dt K G v d) (e : seqOf d = some xs) : ∃ (tp : Bool) (a : Addr) (vs : List V), v = .ref a ∧ sqS K H tp a vs ∧ DtAll K G vs xs := by
  cases h with
  | lst hs ha => cases e; exact ⟨false, _, _, rfl, .of (sm _ _ hs), ha⟩
  | tup hs ha => cases e; exact ⟨true, _, _, rfl, sameTup sm hs, ha⟩
  | non => cases e
  | bl _ => cases e
  | int _ => cases e
  | str _ => cases e
theorem seq_again {K : PySem.W.Frag} {G H : Hp} {a : Addr} {d : D} {xs : List D} {tp : Bool} (sm : Same G H) (h : Dt K G (.ref a) d) (e : seqOf d = some xs) (ht : tp = isTup d) : ∃ vs : List V, sqS K H tp a vs ∧ DtAll K G vs xs := by
  subst ht
  cases h with
  | lst hs ha => cases e; exact ⟨_, .of (sm _ _ hs), ha⟩
  | tup hs ha => cases e; exact ⟨_, sameTup sm hs, ha⟩
theorem setAll_len : ∀ {is : List Nat} {ds : List D} {env env' : Lo}, setAll env is ds = some env' → ds.length = is.length := by
  intro is
  induction is with
  | nil => intro ds env env' e; cases ds <;> first | rfl | cases e
  | cons i is ih =>
    intro ds env env' e
    cases ds with
    | nil => cases e
    | cons d ds =>
      unfold setAll at e
      split at e
      · simp [ih e]
      · cases e
theorem itok_zip {K : PySem.W.Frag} {mg : Str → Option Value} {a b : Addr} {da db : D} {xs ys : List D} (ea : seqOf da = some xs) (eb : seqOf db = some ys) :
    ItOk K mg (ItzM K (isTup da) (isTup db) a b) [(some (.ref a), .sh da), (some (.ref b), .sh db)] (zipD xs ys) := by
  intro i G H os L rp hm
  obtain ⟨va, e1, d1⟩ := rp.shOf (hm (some (.ref a), .sh da) (by simp))
  obtain ⟨vb, e2, d2⟩ := rp.shOf (hm (some (.ref b), .sh db) (by simp))
  cases e1
  cases e2
  obtain ⟨vs, q1, h1⟩ := seq_again rp.same d1 ea rfl
  obtain ⟨ws, q2, h2⟩ := seq_again rp.same d2 eb rfl
  have hlen : (zipD xs ys).length = min xs.length ys.length := by simp [zipD]
  constructor
  · intro d hd
    have hi := (List.getElem?_eq_some_iff.mp hd).1
    rw [hlen] at hi
    have ex : xs[i]? = some xs[i] := List.getElem?_eq_getElem (by omega)
    have ey : ys[i]? = some ys[i] := List.getElem?_eq_getElem (by omega)
    have ed : d = .tuple [xs[i], ys[i]] := by
      unfold zipD at hd
      rw [List.getElem?_zipWith, ex, ey] at hd
      cases hd; rfl
    obtain ⟨x, x1, x2⟩ := h1.get ex
    obtain ⟨y, y1, y2⟩ := h2.get ey
    refine ⟨⟨vs, ws, x, y, q1, q2, x1, y1⟩, fun v H' hy => ?_⟩
    obtain ⟨T, x', y', rfl, hT, rfl, f1, f2⟩ := hy
    have := f1 vs q1; rw [x1] at this; cases this
    have := f2 ws q2; rw [y1] at this; cases this
    refine ⟨_, .step .refl hT, ?_⟩
    rw [ed]
    have sG : Same G (upd G T (.tup [x, y])) := sameG (rp.same.free hT)
    exact .tup (.of upd_same) (.cons (Dt.mono sG _ _ x2) (.cons (Dt.mono sG _ _ y2) .nil))
  · intro hi
    rw [hlen] at hi
    have l1 := h1.length
    have l2 := h2.length
    exact ⟨vs, ws, q1, q2, by omega, by omega, by omega⟩
section
variable {X : Cx}
theorem si_zip {e e2 : Expr} {fs : EvA} {p pos tpos : Pos} {elts : List Expr} {kk : Nat} (hg : Gl X "zip") (hm : X.mg "zip" = none) (ha : SA X [e, e2] fs)
    (hs : starEach [e, e2] X.env = (false, eval e X.env) :: starEach [e2] X.env := by rfl) (hpl : (backTo pos (starEach [e2] X.env)).any (·.1) = false := by rfl) :
    SI X (.Tuple elts kk tpos) (.Call (.Name "zip" p) [e, e2] [] pos) (fZip fs) := by
  obtain ⟨t, p', s⟩ := ha.ex
  refine ⟨_, pi_zipM hg hm p' hs hpl, ?_⟩
  intro σ H env l ks ds env' h e R q
  unfold fZip at e
  obtain ⟨⟨rs, e1⟩, ea, e⟩ := Res.bind_ok e
  obtain ⟨⟨es, e2⟩, eb, e⟩ := Res.bind_ok e
  replace eb := Res.ofO_ok eb
  refine s σ H env l rs e1 h ea _ fun vs H1 h1 => ?_
  have h2 := h1.freeze eb
  dsimp only at e
  split at e
  · rename_i da db
    obtain ⟨xs, ex, e⟩ := Res.bind_ok e
    obtain ⟨ys, ey, e⟩ := Res.bind_ok e
    replace ex := Res.ofO_ok ex
    replace ey := Res.ofO_ok ey
    cases e
    obtain ⟨G, os, rp⟩ := h2.rep
    have hl := h2.alen
    match vs, hl with
    | [va, vb], _ =>
      obtain ⟨v1, q1, d1⟩ := rp.shOf (ov := some va) (d := da) (List.mem_append_left _ (by simp))
      cases q1
      obtain ⟨v2, q2, d2⟩ := rp.shOf (ov := some vb) (d := db) (List.mem_append_left _ (by simp))
      cases q2
      have a1 : ∃ a, va = .ref a := by cases d1 <;> first | exact ⟨_, rfl⟩ | cases ex
      have a2 : ∃ a, vb = .ref a := by cases d2 <;> first | exact ⟨_, rfl⟩ | cases ey
      obtain ⟨a, rfl⟩ := a1
      obtain ⟨b, rfl⟩ := a2
      obtain ⟨vs, q1, _⟩ := seq_again rp.same d1 ex rfl
      obtain ⟨ws, q2, _⟩ := seq_again rp.same d2 ey rfl
      exact ⟨_, _, a, b, vs, ws, rfl, q1, q2, q _ [.ref a, .ref b] H1 h2 (itok_zip ex ey)⟩
  · cases e
end

/-! ### a slot's own list, changed by a method -/
def SemM (r : V → List V → Hp → VK → Prop) (K : PySem.W.Frag) (op : List D → List D → Option (List D × D)) : Prop :=
  ∀ (G H : Hp) (p : Addr) (ws : List V) (ds : List D) (vs : List V) (es : List D) (ds' : List D) (y : D) (Q : VK), Same G H → G p = none → H p = some (.lst ws) → DtAll K G ws ds → DtAll K G vs es → op ds es = some (ds', y) →
    (∀ ws' v, DtAll K G ws' ds' → Dt K G v y → Q v (upd H p (.lst ws'))) → r (.ref p) vs H Q
def fMut (i : Nat) (op : List D → List D → Option (List D × D)) (fs : EvA) : EvF := fun env => do
  match env[i]? with
  | some (.ol _) => do
    let (rs, e1) ← fs env
    let (es, e2) ← Res.ofO (freezeAll e1 rs)
    match e2[i]? with
    | some (.ol ds) => do
      let (ds', y) ← Res.ofO (op ds es)
      .ok (.sh y, e2.set i (.ol ds'))
    | _ => .bad
  | _ => .bad
theorem sem_mut {K : PySem.W.Frag} {mg : Str → Option Value} {i : Nat} {op : List D → List D → Option (List D × D)} {r : V → List V → Hp → VK → Prop} {t : TA} {fs : EvA} (ho : SemM r K op) (hs : SemA K mg t fs) : SemE K mg (tBM K "list" r (tVar i) t) (fMut i op fs) := by
  intro σ H env l s env' h e Q q
  unfold fMut at e
  split at e
  · rename_i ds0 e0
    obtain ⟨⟨rs, e1⟩, ea, e⟩ := Res.bind_ok e
    obtain ⟨⟨es, e2⟩, eb, e⟩ := Res.bind_ok e
    replace eb := Res.ofO_ok eb
    dsimp only at e
    split at e
    · rename_i ds e3
      obtain ⟨⟨ds', y⟩, ec, e⟩ := Res.bind_ok e
      replace ec := Res.ofO_ok ec
      cases e
      obtain ⟨ov, eσ, rp0⟩ := h.take e0
      obtain ⟨G0, os0, rp0⟩ := rp0
      obtain ⟨o0, ri0⟩ := rp0.rl.mem List.mem_cons_self
      obtain ⟨p, ws0, rfl, _, hp0, ha0⟩ := ri0.ol_inv
      refine ⟨.ref p, eσ, .inl ⟨rfl, ws0, .of hp0⟩, ?_⟩
      refine hs σ H env l rs e1 h ea _ fun vs H1 h1 => ?_
      have h2 := h1.freeze eb
      have hh : Hold K mg H1 σ e2 ((vs.map some).zip (es.map Sl.sh) ++ l) := ⟨h2.len, by
        refine h2.rep.perm ?_
        rw [← List.append_assoc, ← List.append_assoc]
        exact List.perm_append_comm.append_right l⟩
      obtain ⟨ov', eσ', rp⟩ := hh.take e3
      rw [eσ] at eσ'; cases eσ'
      obtain ⟨G, os, rp⟩ := rp
      obtain ⟨o1, ri⟩ := rp.rl.mem List.mem_cons_self
      obtain ⟨p', ws, ep, _, hp, ha⟩ := ri.ol_inv
      cases ep
      have hlen : vs.length = es.length := by simpa using h2.alen
      have dv : DtAll K G vs es := rp.all hlen fun it hi => List.mem_cons_of_mem _ (List.mem_append_right _ (List.mem_append_left _ hi))
      have gp : G p = none := by
        cases rp.rl with
        | cons r1 t1 =>
          obtain ⟨p2, _, ep, eo, _, _⟩ := r1.ol_inv
          cases ep
          subst eo
          exact rp.off p (by simp)
      refine ho G H1 p ws ds vs es ds' y Q rp.same gp hp ha dv ec fun ws' v hw hy => q v _ ?_
      have rp2 := rp.mut (s' := .ol ds') (o := .lst ws') ol_own fun H' e => .bx (.ol e hw)
      have rp3 : Rep K mg (upd H1 p (.lst ws')) ((some (.ref p), Sl.ol ds') :: (σ.zip (e2.set i .no) ++ ((some v, Sl.sh y) :: ((vs.map some).zip (es.map Sl.sh) ++ l)))) :=
        Rep.perm ⟨_, _, rp2.sh hy⟩ ((List.Perm.swap _ _ _).trans (List.Perm.cons _ perm_mid))
      have rp4 := Rep.put rp3 (by rw [List.length_set]; exact h2.len) eσ
      rw [List.set_set] at rp4
      refine ⟨by rw [List.length_set]; exact h2.len, ?_, fun _ z => by cases z⟩
      have : Rep K mg (upd H1 p (.lst ws')) ((some v, Sl.sh y) :: (σ.zip (e2.set i (.ol ds')) ++ ((vs.map some).zip (es.map Sl.sh) ++ l))) := rp4.perm perm_mid.symm
      rw [← List.cons_append] at this
      have := this.dropM
      rw [List.cons_append] at this
      exact this
    · cases e
  · cases e
def appendM (ds : List D) : List D → Option (List D × D)
  | [d] => if ds.length < 16777216 then some (ds ++ [d], .none) else none
  | _ => none
theorem sm_append {K : PySem.W.Frag} : SemM rAppend K appendM := by
  intro G H p ws ds vs es ds' y Q sm gp hp ha hv e q
  unfold appendM at e
  split at e
  · split at e
    · rename_i d hz
      cases e
      cases hv with
      | cons a b =>
        cases b
        exact ⟨p, ws, _, rfl, rfl, hp, sizeL' (by rw [ha.length]; exact hz), q _ _ (ha.append (.one a)) .non⟩
    · cases e
  · cases e
def extendM (ds : List D) : List D → Option (List D × D)
  | [.list es] => if ds.length + es.length ≤ 16777216 then some (ds ++ es, .none) else none
  | _ => none
theorem sm_extend {K : PySem.W.Frag} : SemM rExtend K extendM := by
  intro G H p ws ds vs es ds' y Q sm gp hp ha hv e q
  unfold extendM at e
  split at e
  · split at e
    · rename_i d hz
      cases e
      cases hv with
      | cons a b =>
        cases b
        cases a with
        | lst hs hb =>
          exact ⟨p, _, ws, _, rfl, rfl, hp, sm _ _ hs, sizeL (by rw [ha.length, hb.length]; exact hz), q _ _ (ha.append hb) .non⟩
    · cases e
  · cases e
def popM (ds : List D) : List D → Option (List D × D)
  | [] => (ds[ds.length - 1]?).map fun d => (ds.dropLast, d)
  | _ => none
theorem DtAll.dropLast {K : PySem.W.Frag} {G : Hp} {vs : List V} {ds : List D} (h : DtAll K G vs ds) : DtAll K G vs.dropLast ds.dropLast := by
  rw [List.dropLast_eq_take, List.dropLast_eq_take, h.length]
  exact h.take _
theorem sm_pop {K : PySem.W.Frag} : SemM rPop K popM := by
  intro G H p ws ds vs es ds' y Q sm gp hp ha hv e q
  unfold popM at e
  split at e
  · simp only [Option.map_eq_some_iff] at e
    obtain ⟨d, e1, e2⟩ := e
    cases e2
    cases hv
    obtain ⟨v, f1, f2⟩ := ha.get e1
    exact ⟨p, ws, v, rfl, rfl, hp, by rw [ha.length]; exact f1, q _ _ ha.dropLast f2⟩
  · cases e
def reverseM (ds : List D) : List D → Option (List D × D)
  | [] => some (ds.reverse, .none)
  | _ => none
theorem sm_reverse {K : PySem.W.Frag} : SemM rReverse K reverseM := by
  intro G H p ws ds vs es ds' y Q sm gp hp ha hv e q
  unfold reverseM at e
  split at e
  · cases e
    cases hv
    exact ⟨p, ws, rfl, rfl, hp, q _ _ ha.reverse .non⟩
  · cases e
def clearM (_ : List D) : List D → Option (List D × D)
  | [] => some ([], .none)
  | _ => none
theorem sm_clear {K : PySem.W.Frag} : SemM rClear K clearM := by
  intro G H p ws ds vs es ds' y Q sm gp hp ha hv e q
  unfold clearM at e
  split at e
  · cases e
    cases hv
    exact ⟨p, ws, rfl, rfl, hp, q _ _ .nil .non⟩
  · cases e
section
variable {X : Cx} {i : Nat} {x : Str} {name : Str} {e : Expr} {es : List Expr} {fs : EvA} {npos apos cpos : Pos} {id : String} {r : V → List V → Hp → VK → Prop} {op : List D → List D → Option (List D × D)}
theorem se_mut (slot : Slot "list" name id) (hty : typeOf (.builtin id) = pure (.type "method_descriptor")) (hm : MtR X id r) (so : SemM r X.K op) (hN : X.N[i]? = some x) (hv : Vis X.env.scope x) (ha : SA X (e :: es) fs)
    (hd : (x == ("__debug__" : Str)) = false := by decide) (hcd : (x == ("__classdict__" : Str)) = false := by decide)
    (hbase : attributeBase (.Name x npos) name X.env (eval (.Name x npos) X.env) = eval (.Name x npos) X.env := by rfl)
    (hfew : ((backTo cpos (starEach (e :: es) X.env)).all (fun x => !x.1) && (backToKw cpos (keywordEach [] X.env)).all (fun x => x.1.isSome)
      && decide ((e :: es).length + ([] : List Keyword).length + (if ([] : List Keyword).isEmpty then 0 else 1) < 30)) = true := by rfl)
    (hline : (apos.endLine == cpos.line) = true := by rfl) (hs : starEach (e :: es) X.env = (false, eval e X.env) :: starEach es X.env := by rfl) (hplain : (backTo cpos (starEach es X.env)).any (·.1) = false := by rfl) :
    SE X (.Call (.Attribute (.Name x npos) name apos) (e :: es) [] cpos) (fMut i op fs) := by
  obtain ⟨t, p, s⟩ := ha.ex
  exact ⟨_, pe_bm PySem.F.plainAttrs_list slot hty hm (pe_var hN hv hd hcd) p hbase hfew hline hs hplain, sem_mut so s⟩
theorem se_mut0 (slot : Slot "list" name id) (hty : typeOf (.builtin id) = pure (.type "method_descriptor")) (hm : MtR X id r) (so : SemM r X.K op) (hN : X.N[i]? = some x) (hv : Vis X.env.scope x)
    (hd : (x == ("__debug__" : Str)) = false := by decide) (hcd : (x == ("__classdict__" : Str)) = false := by decide)
    (hbase : attributeBase (.Name x npos) name X.env (eval (.Name x npos) X.env) = eval (.Name x npos) X.env := by rfl) (hline : (apos.endLine == cpos.line) = true := by rfl) :
    SE X (.Call (.Attribute (.Name x npos) name apos) [] [] cpos) (fMut i op fNil) := by
  refine ⟨_, pe_bm0 PySem.F.plainAttrs_list slot hty hm (pe_var hN hv hd hcd) hbase hline, ?_⟩
  exact fun σ H env l s env' h e Q q => sem_mut (t := tNil) so sem_nil σ H env l s env' h e Q q
end

/-! ### unpacking -/
def fUnp (is : List Nat) (fa : EvF) : EvS := fun env => do
  let (r, e1) ← fa env
  let (d, e2) ← Res.ofO (freezeR e1 r)
  let e3 ← Res.ofO (bindT (.tp is) d e2)
  .ok (.nx e3)
def fUnl (is : List Nat) (fa : EvF) : EvS := fun env => do
  let (r, e1) ← fa env
  let (d, e2) ← Res.ofO (freezeR e1 r)
  match d with
  | .list ds => do
    let e3 ← Res.ofO (setAll e2 is ds)
    .ok (.nx e3)
  | _ => .bad
section
variable {X : Cx} {ks is : List Nat} {tg e : Expr} {fa : EvF} {pos : Pos} {g : TG}
theorem ss_unp (he : SE X e fa) (hg : PG X tg g) (sg : SemG X.K X.mg g (.tp is)) (hk : ∀ k ∈ ks, k ∉ is := by decide) (hs : swapsWithSole [tg] e pos.line X.env = pure false := by rfl) (hw : swappedStores [tg] e X.env = pure none := by rfl)
    (h1 : (assignEach [tg] X.env).map (·.2) = [assign tg X.env] := by rfl) : SS X ks (.Assign [tg] e pos) (fUnp is fa) := by
  obtain ⟨t, p, s⟩ := he.ex
  refine ⟨_, ps_asg p hg hs hw h1, ?_⟩
  intro σ H env l o h e D post
  obtain ⟨⟨r, e1⟩, ea, e⟩ := Res.bind_ok e
  obtain ⟨⟨d, e2⟩, eb, e⟩ := Res.bind_ok e
  obtain ⟨e3, ec, e⟩ := Res.bind_ok e
  replace eb := Res.ofO_ok eb
  replace ec := Res.ofO_ok ec
  cases e
  refine s σ H env l r e1 h ea _ fun v H1 h1 => ?_
  exact sg σ H1 e2 e3 l v d (h1.freeze eb).hold ec _ fun σ' h' off => post σ' H1 h' (keep_off hk off)
theorem ss_unl (hc : X.calm = true) {es : List Expr} {kk : Nat} {tpos : Pos} (he : SE X e fa) (hg : PGs X es (gNames is)) (hn : (assignEach es X.env).length = is.length := by rfl) (hst : (assignEach es X.env).findIdx? (·.1) = none := by rfl)
    (hk : ∀ k ∈ ks, k ∉ is := by decide) (hs : swapsWithSole [(.Tuple es kk tpos)] e pos.line X.env = pure false := by rfl) (hw : swappedStores [(.Tuple es kk tpos)] e X.env = pure none := by rfl)
    (h1 : (assignEach [(.Tuple es kk tpos)] X.env).map (·.2) = [assign (.Tuple es kk tpos) X.env] := by rfl) : SS X ks (.Assign [.Tuple es kk tpos] e pos) (fUnl is fa) := by
  obtain ⟨t, p, s⟩ := he.ex
  refine ⟨_, ps_asg p (pg_unl hc hg hn hst) hs hw h1, ?_⟩
  intro σ H env l o h e D post
  obtain ⟨⟨r, e1⟩, ea, e⟩ := Res.bind_ok e
  obtain ⟨⟨d, e2⟩, eb, e⟩ := Res.bind_ok e
  replace eb := Res.ofO_ok eb
  dsimp only at e
  split at e
  · rename_i ds
    obtain ⟨e3, ec, e⟩ := Res.bind_ok e
    replace ec := Res.ofO_ok ec
    cases e
    refine s σ H env l r e1 h ea _ fun v H1 h1 => ?_
    have h2 := h1.freeze eb
    obtain ⟨G, os, rp⟩ := h2.rep
    obtain ⟨v', ev, dd⟩ := rp.shOf List.mem_cons_self
    cases ev
    cases dd with
    | @lst a xs _ hs ha =>
      refine ⟨a, xs, rfl, .of (rp.same _ _ hs), by rw [ha.length, setAll_len ec], ?_⟩
      refine setAll_ok (by rw [ha.length]) ⟨h2.len, ?_⟩ ec fun σ' h' off => post σ' H1 h' (keep_off hk off)
      have := dtAll_items rp ha
      have q := Rep.perm ⟨_, _, this⟩ (l' := (some (V.ref a), Sl.sh (.list ds)) :: ((xs.map some).zip (ds.map Sl.sh) ++ (σ.zip e2 ++ l))) perm_mid.symm
      refine q.tail.perm ?_
      rw [← List.append_assoc, ← List.append_assoc]
      exact List.perm_append_comm.append_right l
  · cases e
end

/-! ### the script, asked by its place -/
def fScLen (i : Nat) : EvF := fun env => match env[i]? with
  | some (.sc ns) => .ok (.sh (.int ns.length), env)
  | _ => .bad
def fScIx (i : Nat) (fb : EvF) : EvF := fun env => match env[i]? with
  | some (.sc ns) => do
    let (r, e1) ← fb env
    match r with
    | .sh (.int k) => do
      let n ← Res.ofO (atI ns k)
      .ok (.sh (.int n), e1)
    | _ => .bad
  | _ => .bad
theorem Hold.sc {K : PySem.W.Frag} {mg : Str → Option Value} {H : Hp} {σ : L2.St} {env : Lo} {l : List Item} {i : Nat} {ns : List Int} (h : Hold K mg H σ env l) (e : env[i]? = some (.sc ns)) : ∃ a, σ[i]? = some (some (.ref a)) ∧ SqL K H a (ns.map V.int) ∧ Hold K mg H σ env ((some (.ref a), .sc ns) :: l) := by
  obtain ⟨ov, e1⟩ := slot_at h.len e
  obtain ⟨G, os, rp⟩ := h.rep
  obtain ⟨o, ri⟩ := rp.rl.mem (List.mem_append_left _ (mem_zip e1 e))
  cases ri with
  | bx b => cases b with
    | sc hs => exact ⟨_, e1, rp.same.seq hs, h.len, Rep.perm ⟨_, _, rp.push (.bx (.sc hs))⟩ perm_mid⟩
section
variable {X : Cx} {i : Nat} {x nm : Str} {b : Expr} {fb : EvF} {npos pos p : Pos}
theorem se_scLen (hg : Gl X "len") (hm : X.mg "len" = none) (hN : X.N[i]? = some x) (hv : Vis X.env.scope x) (hd : (x == ("__debug__" : Str)) = false := by decide) (hcd : (x == ("__classdict__" : Str)) = false := by decide)
    (he : starEach [.Name x npos] X.env = (false, eval (.Name x npos) X.env) :: starEach [] X.env := by rfl) (hpl : (backTo pos (starEach [] X.env)).any (·.1) = false := by rfl) : SE X (.Call (.Name "len" p) [.Name x npos] [] pos) (fScLen i) := by
  refine ⟨_, pe_callB call_len_seq hg hm PySem.boot_len (pa_cons (pe_var hN hv hd hcd) pa_nil) (by decide) (by decide) he hpl, ?_⟩
  intro σ H env l r env' h e Q q
  unfold fScLen at e
  split at e
  · rename_i ns e0
    cases e
    obtain ⟨a, e1, hs, _⟩ := h.sc e0
    refine ⟨.ref a, e1, a, ns.map V.int, rfl, .inl hs, ?_⟩
    rw [List.length_map]
    exact q _ H (h.shV fun _ => .int _)
  · cases e
theorem se_scIx (hN : X.N[i]? = some x) (hv : Vis X.env.scope x) (hb : SE X b fb) (hd : (x == ("__debug__" : Str)) = false := by decide) (hcd : (x == ("__classdict__" : Str)) = false := by decide)
    (hs : PlainIx b := by exact fun _ _ => rfl) : SE X (.Subscript (.Name x npos) b pos) (fScIx i fb) := by
  obtain ⟨t, p', s⟩ := hb.ex
  refine ⟨_, pe_ix ix_seq (pe_var hN hv hd hcd) p' hs, ?_⟩
  intro σ H env l r env' h e Q q
  unfold fScIx at e
  split at e
  · rename_i ns e0
    obtain ⟨⟨rb, e1⟩, ea, e⟩ := Res.bind_ok e
    dsimp only at e
    split at e
    · rename_i k
      obtain ⟨n, en, e⟩ := Res.bind_ok e
      replace en := Res.ofO_ok en
      cases e
      obtain ⟨a, e1, hs, h1⟩ := h.sc e0
      refine ⟨.ref a, e1, ?_⟩
      refine s σ H env _ _ _ h1 ea _ fun v H1 h2 => ?_
      obtain ⟨G, os, rp⟩ := h2.rep
      obtain ⟨v', ev, dd⟩ := rp.shOf List.mem_cons_self
      cases ev
      cases dd
      obtain ⟨o, ri⟩ := rp.rl.mem (ov := some (.ref a)) (s := .sc ns) (List.mem_cons_of_mem _ (List.mem_append_right _ List.mem_cons_self))
      cases ri with
      | bx bb => cases bb with
        | sc hs2 =>
          refine .inl ⟨a, ns.map V.int, k, .int n, rfl, rfl, rp.same.seq hs2, ?_, q _ H1 ?_⟩
          · unfold atI at en ⊢
            rw [List.length_map]
            cases hx : ixN ns.length k with
            | none => rw [hx] at en; cases en
            | some j =>
              rw [hx] at en
              show (ns.map V.int)[j]? = some (.int n)
              rw [List.getElem?_map, show ns[j]? = some n from en]
              rfl
          · exact h2.drop.more.shV fun _ => .int n
    · cases e
  · cases e
end
end FL

/-! FL9: built-ins by name, isinstance, the law's end -/
namespace FL
open PySem PySem.Spec PyProof.Rows L2

theorem bt_len : bootBuiltins "len" = some (.builtin "len") := by decide +kernel
theorem bt_sum : bootBuiltins "sum" = some (.builtin "sum") := by decide +kernel
theorem bt_any : bootBuiltins "any" = some (.builtin "any") := by decide +kernel
theorem bt_all : bootBuiltins "all" = some (.builtin "all") := by decide +kernel
theorem bt_abs : bootBuiltins "abs" = some (.builtin "abs") := by decide +kernel
theorem bt_max : bootBuiltins "max" = some (.builtin "max") := by decide +kernel
theorem bt_isinstance : bootBuiltins "isinstance" = some (.builtin "isinstance") := by decide +kernel
theorem bt_int : bootBuiltins "int" = some (.type "int") := by decide +kernel
theorem bt_tuple : bootBuiltins "tuple" = some (.type "tuple") := by decide +kernel
theorem bt_list : bootBuiltins "list" = some (.type "list") := by decide +kernel
theorem bt_bool : bootBuiltins "bool" = some (.type "bool") := by decide +kernel
theorem bt_str : bootBuiltins "str" = some (.type "str") := by decide +kernel
section
variable {X : Cx} {a b : Expr} {fs : EvA} {fa : EvF} {p pos : Pos}
theorem se_len (hm : X.mg "len" = none) (ha : SA X [a] fs) (hg : Gl X "len" := by rfl) (he : starEach [a] X.env = (false, eval a X.env) :: starEach [] X.env := by rfl) (hpl : (backTo pos (starEach [] X.env)).any (·.1) = false := by rfl) : SE X (.Call (.Name "len" p) [a] [] pos) (fCB lenD fs) :=
  se_cB oc_len sc_len hg hm bt_len ha (by decide) (by decide) he hpl
theorem se_sum (hc : X.calm = true) (hm : X.mg "sum" = none) (ha : SA X [a] fs) (hg : Gl X "sum" := by rfl) (he : starEach [a] X.env = (false, eval a X.env) :: starEach [] X.env := by rfl) (hpl : (backTo pos (starEach [] X.env)).any (·.1) = false := by rfl) : SE X (.Call (.Name "sum" p) [a] [] pos) (fCB sumD fs) :=
  se_cB (cr_sum hc) sc_sum hg hm bt_sum ha (by decide) (by decide) he hpl
theorem se_any (hc : X.calm = true) (hm : X.mg "any" = none) (ha : SA X [a] fs) (hg : Gl X "any" := by rfl) (he : starEach [a] X.env = (false, eval a X.env) :: starEach [] X.env := by rfl) (hpl : (backTo pos (starEach [] X.env)).any (·.1) = false := by rfl) : SE X (.Call (.Name "any" p) [a] [] pos) (fCB anyD fs) :=
  se_cB (cr_any hc) sc_any hg hm bt_any ha (by decide) (by decide) he hpl
theorem se_all (hc : X.calm = true) (hm : X.mg "all" = none) (ha : SA X [a] fs) (hg : Gl X "all" := by rfl) (he : starEach [a] X.env = (false, eval a X.env) :: starEach [] X.env := by rfl) (hpl : (backTo pos (starEach [] X.env)).any (·.1) = false := by rfl) : SE X (.Call (.Name "all" p) [a] [] pos) (fCB allD fs) :=
  se_cB (cr_all hc) sc_all hg hm bt_all ha (by decide) (by decide) he hpl
theorem se_abs (hm : X.mg "abs" = none) (ha : SA X [a] fs) (hg : Gl X "abs" := by rfl) (he : starEach [a] X.env = (false, eval a X.env) :: starEach [] X.env := by rfl) (hpl : (backTo pos (starEach [] X.env)).any (·.1) = false := by rfl) : SE X (.Call (.Name "abs" p) [a] [] pos) (fCB absD fs) :=
  se_cB call_abs sc_abs hg hm bt_abs ha (by decide) (by decide) he hpl
theorem se_max (hc : X.calm = true) (hm : X.mg "max" = none) (ha : SA X [a, b] fs) (hg : Gl X "max" := by rfl) (he : starEach [a, b] X.env = (false, eval a X.env) :: starEach [b] X.env := by rfl) (hpl : (backTo pos (starEach [b] X.env)).any (·.1) = false := by rfl) : SE X (.Call (.Name "max" p) [a, b] [] pos) (fCB maxD fs) :=
  se_cB (call_max2 hc) sc_max hg hm bt_max ha (by decide) (by decide) he hpl
theorem se_tint (hm : X.mg "int" = none) (ha : SA X [a] fs) (hg : Gl X "int" := by rfl) (he : starEach [a] X.env = (false, eval a X.env) :: starEach [] X.env := by rfl) (hpl : (backTo pos (starEach [] X.env)).any (·.1) = false := by rfl) : SE X (.Call (.Name "int" p) [a] [] pos) (fCB intD fs) :=
  se_cTy call_int1 sc_int hg hm bt_int ha (by decide) (by decide) he hpl
theorem se_ttuple (hm : X.mg "tuple" = none) (ha : SA X [a] fs) (hg : Gl X "tuple" := by rfl) (he : starEach [a] X.env = (false, eval a X.env) :: starEach [] X.env := by rfl) (hpl : (backTo pos (starEach [] X.env)).any (·.1) = false := by rfl) : SE X (.Call (.Name "tuple" p) [a] [] pos) (fCB tupleD fs) :=
  se_cTy call_tuple_of sc_tuple hg hm bt_tuple ha (by decide) (by decide) he hpl
theorem se_tlist (hm : X.mg "list" = none) (ha : SA X [a] fs) (hg : Gl X "list" := by rfl) (he : starEach [a] X.env = (false, eval a X.env) :: starEach [] X.env := by rfl) (hpl : (backTo pos (starEach [] X.env)).any (·.1) = false := by rfl) : SE X (.Call (.Name "list" p) [a] [] pos) (fCB listD fs) :=
  se_cTy call_list_of sc_list hg hm bt_list ha (by decide) (by decide) he hpl

/-! ### isinstance with one built-in class -/
def tyD : D → String
  | .none => "NoneType"
  | .bool _ => "bool"
  | .int _ => "int"
  | .str _ => "str"
  | .list _ => "list"
  | .tuple _ => "tuple"
  | .dict _ => "dict"
def isiD (T : String) (d : D) : Bool := tyD d == T || (T == "int" && tyD d == "bool")
def isiTys : List String := ["int", "bool", "str", "list", "tuple"]
theorem isi_all : ∀ a ∈ ["NoneType", "bool", "int", "str", "list", "tuple"], ∀ T ∈ isiTys, kitB a T = some (a == T || (T == "int" && a == "bool")) := by decide +kernel
def fIsi (T : String) (fa : EvF) : EvF := fOp1 (fun d => some (.sh (.bool (isiD T d)))) fa
theorem tyX_of {K : PySem.W.Frag} {G H : Hp} {v : V} {d : D} (sm : Same G H) (h : DpT K G H v d) : TyX K H v (.type (tyD d)) ∧ tyD d ∈ ["NoneType", "bool", "int", "str", "list", "tuple"] := by
  rcases h with h | ⟨p, vs, ds, rfl, rfl, hp, _⟩
  · cases h with
    | non => exact ⟨.base .non, by decide⟩
    | bl b => exact ⟨.base (.bl b), by show "bool" ∈ _; decide⟩
    | int i => exact ⟨.base (.int i), by show "int" ∈ _; decide⟩
    | str x => exact ⟨.base (.str x), by show "str" ∈ _; decide⟩
    | lst hs ha => exact ⟨.base (.lst (sm _ _ hs)), by show "list" ∈ _; decide⟩
    | tup hs ha =>
      refine ⟨?_, by show "tuple" ∈ _; decide⟩
      rcases hs with (h | ⟨o, h⟩) | ⟨o, its, n, h1, h2, h3⟩
      · exact .base (.tup (sm _ _ h))
      · exact .fTuple (sm _ _ h)
      · exact .kTuple h1 h2
  · exact ⟨.base (.lst hp), by show "list" ∈ _; decide⟩
theorem se_isi {T : String} {x : Str} {p2 : Pos} (hT : T ∈ isiTys) (hm : X.mg "isinstance" = none) (hmT : X.mg x = none) (hbT : bootBuiltins x = some (.type T)) (ha : SE X a fa) (hg : Gl X "isinstance" := by rfl) (hgT : Gl X x := by rfl) (hn : x ≠ "__name__" := by decide) (hd : (x == ("__debug__" : Str)) = false := by decide)
    (he : starEach [a, .Name x p2] X.env = (false, eval a X.env) :: starEach [.Name x p2] X.env := by rfl) (he2 : starEach [.Name x p2] X.env = (false, eval (.Name x p2) X.env) :: starEach [] X.env := by rfl) (hpl : (backTo pos (starEach [.Name x p2] X.env)).any (·.1) = false := by rfl) :
    SE X (.Call (.Name "isinstance" p) [a, .Name x p2] [] pos) (fIsi T fa) := by
  obtain ⟨t, p', s⟩ := ha.ex
  refine ⟨_, pe_callB call_isi hg hm bt_isinstance (pa_cons p' (pa_cons (pe_bltn (v := .ty T) hgT hmT hbT rfl hn hd) pa_nil he2) he) (by decide) (by decide) he hpl, ?_⟩
  intro σ H env l r env' h e Q q
  unfold fIsi fOp1 at e
  obtain ⟨⟨ra, e1⟩, ea, e⟩ := Res.bind_ok e
  obtain ⟨d, va, e⟩ := Res.bind_ok e
  replace va := Res.ofO_ok va
  cases e
  refine s σ H env l ra _ h ea _ fun v H1 h1 => ?_
  obtain ⟨G, os, rp⟩ := h1.rep
  have dx : DpT X.K G H1 v d := rp.view (σ := σ) List.mem_cons_self (fun it hi => List.mem_cons_of_mem _ (List.mem_append_left _ hi)) h1.vw va
  obtain ⟨ty, hm⟩ := tyX_of rp.same dx
  exact ⟨v, .ty T, .type (tyD d), .type T, _, rfl, .ty T, ty, kit_ty (isi_all _ hm _ hT), q _ H1 (h1.drop.shV fun _ => .bl _)⟩
end

/-! ### the law's own end -/
/-- the law's promise -/
def spLaw (K : PySem.W.Frag) : Sp := fun vs H Q _ => ∃ (a : Addr) (ns : List Int), vs = [.ref a] ∧ SqL K H a (ns.map V.int) ∧ ns.length ≤ 63 ∧ ∀ H', Q (.bl true) H'
theorem law_imp {P : Program} {w : World} {K : PySem.W.Frag} {mg : Str → Option Value} {base : Heap} {k : Nat} {f : Addr} {fd : FuncData} {ps : List Str} {F : Fn} (h : FnOk P w K mg base CX0 k f fd ps (spF K mg 1 F))
    (law : ∀ ns : List Int, ns.length ≤ 63 → ∃ as, F [.sc ns] = .ok (.sh (.bool true), as)) : FnOk P w K mg base CX0 k f fd ps (spLaw K) := by
  refine h.imp fun vs H Q E hq => ?_
  obtain ⟨a, ns, rfl, hs, hl, q⟩ := hq
  obtain ⟨as, e⟩ := law ns hl
  refine ⟨rfl, [.sc ns], [], _, as, rfl, ⟨H, [], .refl _, ?_, .nil, fun a ha => by cases ha⟩, e, fun v H' rp _ => ?_⟩
  · exact RL.cons (o := []) (os := []) (.bx (.sc hs)) .nil
  · obtain ⟨G, os, rp⟩ := rp
    obtain ⟨v', ev, d⟩ := rp.shOf List.mem_cons_self
    cases ev
    cases d
    exact q H'
theorem fnF_mk {P : Program} {w : World} {K : PySem.W.Frag} {mg : Str → Option Value} {base : Heap} {x qual : Str} {st : Stmt} {f : Addr} {fd : FuncData} {ps : List Str} {n k : Nat} {F : Fn} (Fn : Fun K x qual st f fd) (hm : mg x = some (.ref f)) (hb : Binds K fd ps []) (h : FnOk P w K mg base CX0 k f fd ps (spF K mg n F)) : FnF P w K mg base x n k F :=
  ⟨⟨f, fd, ps, hm, Fn.kp, hb, h⟩⟩
end FL

/-! FE: how the functions are reckoned, by simp -/
namespace FL
open PySem PySem.Spec PyProof.Rows L2

/-- an equation whose proof is kept -/
theorem eqq {α : Sort _} {a b : α} (h : a = b) : a = b := h
namespace Res
@[simp] theorem bind_ok' {α β : Type} (a : α) (f : α → Res β) : Res.bind (.ok a) f = f a := eqq rfl
@[simp] theorem bind_bad {α β : Type} (f : α → Res β) : Res.bind (.bad : Res α) f = .bad := eqq rfl
end Res
-- names
def varC (env : Lo) (i : Nat) : Option Sl → Res (Sl × Lo)
  | some (.sh d) => .ok (.sh d, env)
  | some (.ol _) => .ok (.vw i, env)
  | some (.od _) => .ok (.vw i, env)
  | some (.oi _ _) => .ok (.vw i, env)
  | some (.sc ns) => .ok (.sc ns, env)
  | _ => .bad
@[simp] theorem ev_var (i : Nat) (env : Lo) : fVar i env = varC env i env[i]? := by
  unfold fVar varC
  split <;> simp_all
@[simp] theorem varC_sh (env : Lo) (i : Nat) (d : D) : varC env i (some (.sh d)) = .ok (.sh d, env) := eqq rfl
@[simp] theorem varC_ol (env : Lo) (i : Nat) (d : List D) : varC env i (some (.ol d)) = .ok (.vw i, env) := eqq rfl
@[simp] theorem varC_od (env : Lo) (i : Nat) (d : List (Key × D)) : varC env i (some (.od d)) = .ok (.vw i, env) := eqq rfl
@[simp] theorem varC_sc (env : Lo) (i : Nat) (d : List Int) : varC env i (some (.sc d)) = .ok (.sc d, env) := eqq rfl
@[simp] theorem ev_c (d : D) (env : Lo) : fC d env = .ok (.sh d, env) := eqq rfl
-- views
@[simp] theorem view_sh (env : Lo) (d : D) : view env (.sh d) = some d := eqq rfl
@[simp] theorem view_ol (env : Lo) (d : List D) : view env (.ol d) = some (.list d) := eqq rfl
def viewC : Option Sl → Option D
  | some (.ol ds) => some (.list ds)
  | _ => none
@[simp] theorem view_vw (env : Lo) (i : Nat) : view env (.vw i) = viewC env[i]? := by
  show (match env[i]? with | some (Sl.ol ds) => some (PyData.list ds) | _ => none) = _
  unfold viewC
  split <;> simp_all
@[simp] theorem viewC_ol (ds : List D) : viewC (some (.ol ds)) = some (.list ds) := eqq rfl
-- operations
def opE (e : Lo) : Option Sl → Res (Sl × Lo)
  | some s => .ok (s, e)
  | none => .bad
@[simp] theorem opE_some (e : Lo) (s : Sl) : opE e (some s) = .ok (s, e) := eqq rfl
def opV (op : D → D → Option Sl) (e : Lo) : Option D → Option D → Res (Sl × Lo)
  | some a, some b => opE e (op a b)
  | _, _ => .bad
@[simp] theorem opV_some (op : D → D → Option Sl) (e : Lo) (a b : D) : opV op e (some a) (some b) = opE e (op a b) := eqq rfl
def opC2 (op : D → D → Option Sl) (ra : Sl) (p : Sl × Lo) : Res (Sl × Lo) := opV op p.2 (view p.2 ra) (view p.2 p.1)
def opC1 (op : D → D → Option Sl) (fb : EvF) (p : Sl × Lo) : Res (Sl × Lo) := (fb p.2).bind (opC2 op p.1)
@[simp] theorem opC1_ev (op : D → D → Option Sl) (fb : EvF) (ra : Sl) (e : Lo) : opC1 op fb (ra, e) = (fb e).bind (opC2 op ra) := eqq rfl
@[simp] theorem opC2_ev (op : D → D → Option Sl) (ra rb : Sl) (e : Lo) : opC2 op ra (rb, e) = opV op e (view e ra) (view e rb) := eqq rfl
@[simp] theorem ev_op (op : D → D → Option Sl) (fa fb : EvF) (env : Lo) : fOp op fa fb env = (fa env).bind (opC1 op fb) := by
  show (fa env).bind _ = _
  congr 1
  funext ⟨ra, e1⟩
  show (fb e1).bind _ = _
  congr 1
  funext ⟨rb, e2⟩
  show (Res.ofO (view e2 ra)).bind _ = opV op e2 (view e2 ra) (view e2 rb)
  cases view e2 ra with
  | none => rfl
  | some a =>
    show (Res.ofO (view e2 rb)).bind _ = _
    cases view e2 rb with
    | none => rfl
    | some b =>
      show (Res.ofO (op a b)).bind _ = opE e2 (op a b)
      cases op a b <;> rfl
def op1V (op : D → Option Sl) (e : Lo) : Option D → Res (Sl × Lo)
  | some a => opE e (op a)
  | none => .bad
@[simp] theorem op1V_some (op : D → Option Sl) (e : Lo) (a : D) : op1V op e (some a) = opE e (op a) := eqq rfl
def op1C (op : D → Option Sl) (p : Sl × Lo) : Res (Sl × Lo) := op1V op p.2 (view p.2 p.1)
@[simp] theorem op1C_ev (op : D → Option Sl) (ra : Sl) (e : Lo) : op1C op (ra, e) = op1V op e (view e ra) := eqq rfl
@[simp] theorem ev_op1 (op : D → Option Sl) (fa : EvF) (env : Lo) : fOp1 op fa env = (fa env).bind (op1C op) := by
  show (fa env).bind _ = _
  congr 1
  funext ⟨ra, e1⟩
  show (Res.ofO (view e1 ra)).bind _ = op1V op e1 (view e1 ra)
  cases view e1 ra with
  | none => rfl
  | some a =>
    show (Res.ofO (op a)).bind _ = opE e1 (op a)
    cases op a <;> rfl
@[simp] theorem ev_isi (T : String) (fa : EvF) (env : Lo) : fIsi T fa env = (fa env).bind (op1C fun d => some (.sh (.bool (isiD T d)))) := ev_op1 _ _ _
@[simp] theorem isiD_int (T : String) (i : Int) : isiD T (.int i) = (("int" : String) == T) := by
  unfold isiD tyD
  by_cases h : ("int" : String) == T <;> simp [h]
  all_goals (try (intro _; decide))
-- the operators' values
@[simp] theorem addD_int (i j : Int) : addD (.int i) (.int j) = some (.sh (.int (i + j))) := eqq rfl
@[simp] theorem subD_int (i j : Int) : subD (.int i) (.int j) = some (.sh (.int (i - j))) := eqq rfl
theorem mulD_int {i j : Int} (h : mulOk i j = true) : mulD (.int i) (.int j) = some (.sh (.int (i * j))) := if_pos h
theorem mulD_rep {ds : List D} {k : Int} (h : -(2^63) ≤ k ∧ k < 2^63 ∧ ds.length * k.toNat ≤ 16777216) : mulD (.list ds) (.int k) = some (.ol (List.replicate k.toNat ds).flatten) := if_pos h
theorem divD_int {i j : Int} (h : divOk i j = true) : divD (.int i) (.int j) = some (.sh (.int (i.fdiv j))) := if_pos h
theorem modD_int {i j : Int} (h : 0 < j) : modD (.int i) (.int j) = some (.sh (.int (i % j))) := if_pos h
theorem powD_int {i j : Int} (h : 0 ≤ j ∧ j ≤ 1000000 ∧ i.natAbs < 2 ^ 64) : powD (.int i) (.int j) = some (.sh (.int (i ^ j.toNat))) := if_pos h
@[simp] theorem negD_int (i : Int) : negD (.int i) = some (.sh (.int (-i))) := eqq rfl
@[simp] theorem cmpD_int (p : Int → Int → Bool) (i j : Int) : cmpD p (.int i) (.int j) = some (.sh (.bool (p i j))) := eqq rfl
theorem eqD_ok {a b : D} (ha : shapedD a = true) (hb : shapedD b = true) : eqD a b = some (.sh (.bool (PyData.eqv a b))) := if_pos ⟨ha, hb⟩
theorem neD_ok {a b : D} (ha : shapedD a = true) (hb : shapedD b = true) : neD a b = some (.sh (.bool (!PyData.eqv a b))) := if_pos ⟨ha, hb⟩
@[simp] theorem shaped_int (i : Int) : shapedD (.int i) = true := by
  unfold shapedD SeqAt.shaped
  rfl
theorem eqv_int (i j : Int) : PyData.eqv (.int i) (.int j) = (i == j) := by simp [PyData.eqv]
@[simp] theorem ixD_list (ds : List D) (i : Int) : ixD (.list ds) (.int i) = (atI ds i).map .sh := eqq rfl
@[simp] theorem ixD_tuple (ds : List D) (i : Int) : ixD (.tuple ds) (.int i) = (atI ds i).map .sh := eqq rfl
theorem at_nat {α : Type} {xs : List α} {n : Nat} {x : α} (h : xs[n]? = some x) : atI xs (n : Int) = some x := by
  have hn := (List.getElem?_eq_some_iff.mp h).1
  unfold atI ixN
  rw [if_pos (by omega), if_pos (by omega)]
  simpa using h
theorem at_int {α : Type} {xs : List α} {i : Int} {x : α} (h0 : 0 ≤ i) (h : xs[i.toNat]? = some x) : atI xs i = some x := by
  have : i = (i.toNat : Int) := by omega
  rw [this]
  exact at_nat h
-- arguments
@[simp] theorem ev_nil (env : Lo) : fNil env = .ok ([], env) := eqq rfl
def consC2 (r : Sl) (p : List Sl × Lo) : Res (List Sl × Lo) := .ok (r :: p.1, p.2)
def consC1 (fr : EvA) (p : Sl × Lo) : Res (List Sl × Lo) := (fr p.2).bind (consC2 p.1)
@[simp] theorem consC1_ev (fr : EvA) (r : Sl) (e : Lo) : consC1 fr (r, e) = (fr e).bind (consC2 r) := eqq rfl
@[simp] theorem consC2_ev (r : Sl) (rs : List Sl) (e : Lo) : consC2 r (rs, e) = .ok (r :: rs, e) := eqq rfl
@[simp] theorem ev_cons (fa : EvF) (fr : EvA) (env : Lo) : fCons fa fr env = (fa env).bind (consC1 fr) := eqq rfl
@[simp] theorem views_nil (env : Lo) : views env [] = some [] := eqq rfl
def viewsC (a : Option D) (b : Option (List D)) : Option (List D) := a.bind fun d => b.map (d :: ·)
@[simp] theorem viewsC_some (d : D) (ds : List D) : viewsC (some d) (some ds) = some (d :: ds) := eqq rfl
@[simp] theorem views_cons (env : Lo) (r : Sl) (rs : List Sl) : views env (r :: rs) = viewsC (view env r) (views env rs) := by
  unfold viewsC
  show (do let d ← view env r; let ds ← views env rs; some (d :: ds)) = _
  cases view env r <;> simp <;> cases views env rs <;> rfl
def cbV (op : List D → Option Sl) (e : Lo) : Option (List D) → Res (Sl × Lo)
  | some ds => opE e (op ds)
  | none => .bad
@[simp] theorem cbV_some (op : List D → Option Sl) (e : Lo) (ds : List D) : cbV op e (some ds) = opE e (op ds) := eqq rfl
def cbC (op : List D → Option Sl) (p : List Sl × Lo) : Res (Sl × Lo) := cbV op p.2 (views p.2 p.1)
@[simp] theorem cbC_ev (op : List D → Option Sl) (rs : List Sl) (e : Lo) : cbC op (rs, e) = cbV op e (views e rs) := eqq rfl
@[simp] theorem ev_cb (op : List D → Option Sl) (fs : EvA) (env : Lo) : fCB op fs env = (fs env).bind (cbC op) := by
  show (fs env).bind _ = _
  congr 1
  funext ⟨rs, e1⟩
  show (Res.ofO (views e1 rs)).bind _ = cbV op e1 (views e1 rs)
  cases views e1 rs with
  | none => rfl
  | some ds =>
    show (Res.ofO (op ds)).bind _ = opE e1 (op ds)
    cases op ds <;> rfl
@[simp] theorem lenD_list (ds : List D) : lenD [.list ds] = some (.sh (.int ds.length)) := eqq rfl
@[simp] theorem lenD_tuple (ds : List D) : lenD [.tuple ds] = some (.sh (.int ds.length)) := eqq rfl
@[simp] theorem sumD_ints (ns : List Int) : sumD [.list (ns.map PyData.int)] = some (.sh (.int ns.sum)) := by
  show (intsOf _).map _ = _
  rw [intsOf_map]; rfl
@[simp] theorem tupleD_list (ds : List D) : tupleD [.list ds] = some (.sh (.tuple ds)) := eqq rfl
@[simp] theorem tupleD_tuple (ds : List D) : tupleD [.tuple ds] = some (.sh (.tuple ds)) := eqq rfl
@[simp] theorem listD_list (ds : List D) : listD [.list ds] = some (.ol ds) := eqq rfl
@[simp] theorem listD_tuple (ds : List D) : listD [.tuple ds] = some (.ol ds) := eqq rfl
@[simp] theorem absD_int (i : Int) : absD [.int i] = some (.sh (.int (if i < 0 then -i else i))) := eqq rfl
@[simp] theorem intD_int (i : Int) : intD [.int i] = some (.sh (.int i)) := eqq rfl
@[simp] theorem intD_bool (b : Bool) : intD [.bool b] = some (.sh (.int (if b then 1 else 0))) := eqq rfl
-- freezing, displays
@[simp] theorem fz_sh (env : Lo) (d : D) : freezeR env (.sh d) = some (d, env) := eqq rfl
@[simp] theorem fz_ol (env : Lo) (d : List D) : freezeR env (.ol d) = some (.list d, env) := eqq rfl
def fzC (env : Lo) (i : Nat) : Option Sl → Option (D × Lo)
  | some (.ol ds) => some (.list ds, env.set i (.sh (.list ds)))
  | _ => none
@[simp] theorem fzC_ol (env : Lo) (i : Nat) (ds : List D) : fzC env i (some (.ol ds)) = some (.list ds, env.set i (.sh (.list ds))) := eqq rfl
@[simp] theorem fz_vw (env : Lo) (i : Nat) : freezeR env (.vw i) = fzC env i env[i]? := by
  show (match env[i]? with | some (Sl.ol ds) => some (PyData.list ds, env.set i (.sh (.list ds))) | _ => none) = _
  unfold fzC
  split <;> simp_all
@[simp] theorem fza_nil (env : Lo) : freezeAll env [] = some ([], env) := eqq rfl
def fzaC2 (d : D) (p : List D × Lo) : Option (List D × Lo) := some (d :: p.1, p.2)
def fzaC (rs : List Sl) (p : D × Lo) : Option (List D × Lo) := (freezeAll p.2 rs).bind (fzaC2 p.1)
@[simp] theorem fzaC_ev (rs : List Sl) (d : D) (e : Lo) : fzaC rs (d, e) = (freezeAll e rs).bind (fzaC2 d) := eqq rfl
@[simp] theorem fzaC2_ev (d : D) (ds : List D) (e : Lo) : fzaC2 d (ds, e) = some (d :: ds, e) := eqq rfl
@[simp] theorem fza_cons (env : Lo) (r : Sl) (rs : List Sl) : freezeAll env (r :: rs) = (freezeR env r).bind (fzaC rs) := eqq rfl
def tupV : Option (List D × Lo) → Res (Sl × Lo)
  | some (ds, e) => if ds.length ≤ 16777216 then .ok (.sh (.tuple ds), e) else .bad
  | none => .bad
def lstV : Option (List D × Lo) → Res (Sl × Lo)
  | some (ds, e) => if ds.length ≤ 16777216 then .ok (.ol ds, e) else .bad
  | none => .bad
@[simp] theorem tupV_some (ds : List D) (e : Lo) : tupV (some (ds, e)) = if ds.length ≤ 16777216 then .ok (.sh (.tuple ds), e) else .bad := eqq rfl
@[simp] theorem lstV_some (ds : List D) (e : Lo) : lstV (some (ds, e)) = if ds.length ≤ 16777216 then .ok (.ol ds, e) else .bad := eqq rfl
def tupC (p : List Sl × Lo) : Res (Sl × Lo) := tupV (freezeAll p.2 p.1)
def lstC (p : List Sl × Lo) : Res (Sl × Lo) := lstV (freezeAll p.2 p.1)
@[simp] theorem tupC_ev (rs : List Sl) (e : Lo) : tupC (rs, e) = tupV (freezeAll e rs) := eqq rfl
@[simp] theorem lstC_ev (rs : List Sl) (e : Lo) : lstC (rs, e) = lstV (freezeAll e rs) := eqq rfl
@[simp] theorem ev_tup (fs : EvA) (env : Lo) : fTup fs env = (fs env).bind tupC := by
  show (fs env).bind _ = _
  congr 1
  funext ⟨rs, e1⟩
  show (Res.ofO (freezeAll e1 rs)).bind _ = tupV (freezeAll e1 rs)
  cases freezeAll e1 rs <;> rfl
@[simp] theorem ev_lst (fs : EvA) (env : Lo) : fLst fs env = (fs env).bind lstC := by
  show (fs env).bind _ = _
  congr 1
  funext ⟨rs, e1⟩
  show (Res.ofO (freezeAll e1 rs)).bind _ = lstV (freezeAll e1 rs)
  cases freezeAll e1 rs <;> rfl
-- tests
def tstC : Sl × Lo → Res (Bool × Lo)
  | (.sh (.bool b), e) => .ok (b, e)
  | _ => .bad
@[simp] theorem tstC_ev (b : Bool) (e : Lo) : tstC (.sh (.bool b), e) = .ok (b, e) := eqq rfl
@[simp] theorem ev_tst (f : EvF) (env : Lo) : fTst f env = (f env).bind tstC := by
  show (f env).bind _ = _
  congr 1
  funext ⟨r, e1⟩
  cases r <;> first | rfl | (rename_i d; cases d <;> rfl)
def notC (p : Bool × Lo) : Res (Bool × Lo) := .ok (!p.1, p.2)
@[simp] theorem notC_ev (b : Bool) (e : Lo) : notC (b, e) = .ok (!b, e) := eqq rfl
@[simp] theorem ev_notT (f : EvT) (env : Lo) : fNotT f env = (f env).bind notC := eqq rfl
def andC (g : EvT) : Bool × Lo → Res (Bool × Lo)
  | (true, e) => g e
  | (false, e) => .ok (false, e)
def orC (g : EvT) : Bool × Lo → Res (Bool × Lo)
  | (true, e) => .ok (true, e)
  | (false, e) => g e
@[simp] theorem andC_t (g : EvT) (e : Lo) : andC g (true, e) = g e := eqq rfl
@[simp] theorem andC_f (g : EvT) (e : Lo) : andC g (false, e) = .ok (false, e) := eqq rfl
@[simp] theorem orC_t (g : EvT) (e : Lo) : orC g (true, e) = .ok (true, e) := eqq rfl
@[simp] theorem orC_f (g : EvT) (e : Lo) : orC g (false, e) = g e := eqq rfl
@[simp] theorem ev_andT (f g : EvT) (env : Lo) : fAndT f g env = (f env).bind (andC g) := by
  show (f env).bind _ = _
  congr 1
  funext ⟨b, e1⟩
  cases b <;> rfl
@[simp] theorem ev_orT (f g : EvT) (env : Lo) : fOrT f g env = (f env).bind (orC g) := by
  show (f env).bind _ = _
  congr 1
  funext ⟨b, e1⟩
  cases b <;> rfl
def andVC (g : EvF) : Bool × Lo → Res (Sl × Lo)
  | (true, e) => g e
  | (false, e) => .ok (.sh (.bool false), e)
def orVC (g : EvF) : Bool × Lo → Res (Sl × Lo)
  | (true, e) => .ok (.sh (.bool true), e)
  | (false, e) => g e
@[simp] theorem andVC_t (g : EvF) (e : Lo) : andVC g (true, e) = g e := eqq rfl
@[simp] theorem andVC_f (g : EvF) (e : Lo) : andVC g (false, e) = .ok (.sh (.bool false), e) := eqq rfl
@[simp] theorem orVC_t (g : EvF) (e : Lo) : orVC g (true, e) = .ok (.sh (.bool true), e) := eqq rfl
@[simp] theorem orVC_f (g : EvF) (e : Lo) : orVC g (false, e) = g e := eqq rfl
@[simp] theorem ev_andV (f g : EvF) (env : Lo) : fAndV f g env = (fTst f env).bind (andVC g) := by
  show (fTst f env).bind _ = _
  congr 1
  funext ⟨b, e1⟩
  cases b <;> rfl
@[simp] theorem ev_orV (f g : EvF) (env : Lo) : fOrV f g env = (fTst f env).bind (orVC g) := by
  show (fTst f env).bind _ = _
  congr 1
  funext ⟨b, e1⟩
  cases b <;> rfl
def notVC (p : Bool × Lo) : Res (Sl × Lo) := .ok (.sh (.bool (!p.1)), p.2)
@[simp] theorem notVC_ev (b : Bool) (e : Lo) : notVC (b, e) = .ok (.sh (.bool (!b)), e) := eqq rfl
@[simp] theorem ev_notV (f : EvF) (env : Lo) : fNotV f env = (fTst f env).bind notVC := eqq rfl
def ifC (fa fb : EvF) : Bool × Lo → Res (Sl × Lo)
  | (true, e) => fa e
  | (false, e) => fb e
@[simp] theorem ifC_t (fa fb : EvF) (e : Lo) : ifC fa fb (true, e) = fa e := eqq rfl
@[simp] theorem ifC_f (fa fb : EvF) (e : Lo) : ifC fa fb (false, e) = fb e := eqq rfl
@[simp] theorem ev_if (ft : EvT) (fa fb : EvF) (env : Lo) : fIf ft fa fb env = (ft env).bind (ifC fa fb) := by
  show (ft env).bind _ = _
  congr 1
  funext ⟨b, e1⟩
  cases b <;> rfl
@[simp] theorem ev_yes (env : Lo) : fYes env = .ok (true, env) := eqq rfl
-- slices
@[simp] theorem ev_noPart (env : Lo) : fNoPart env = .ok (none, env) := eqq rfl
def partC : Sl × Lo → Res (Option Int × Lo)
  | (.sh (.int i), e) => .ok (some i, e)
  | _ => .bad
@[simp] theorem partC_ev (i : Int) (e : Lo) : partC (.sh (.int i), e) = .ok (some i, e) := eqq rfl
@[simp] theorem ev_part (fa : EvF) (env : Lo) : fPart fa env = (fa env).bind partC := by
  show (fa env).bind _ = _
  congr 1
  funext ⟨r, e1⟩
  cases r <;> first | rfl | (rename_i d; cases d <;> rfl)
def slV (lo hi : Option Int) (e : Lo) : Option D → Res (Sl × Lo)
  | some a => opE e (sliceD a lo hi)
  | none => .bad
@[simp] theorem slV_some (lo hi : Option Int) (e : Lo) (a : D) : slV lo hi e (some a) = opE e (sliceD a lo hi) := eqq rfl
def slC3 (ra : Sl) (lo : Option Int) (p : Option Int × Lo) : Res (Sl × Lo) := slV lo p.1 p.2 (view p.2 ra)
def slC2 (fh : EvO) (ra : Sl) (p : Option Int × Lo) : Res (Sl × Lo) := (fh p.2).bind (slC3 ra p.1)
def slC1 (fl fh : EvO) (p : Sl × Lo) : Res (Sl × Lo) := (fl p.2).bind (slC2 fh p.1)
@[simp] theorem slC1_ev (fl fh : EvO) (ra : Sl) (e : Lo) : slC1 fl fh (ra, e) = (fl e).bind (slC2 fh ra) := eqq rfl
@[simp] theorem slC2_ev (fh : EvO) (ra : Sl) (lo : Option Int) (e : Lo) : slC2 fh ra (lo, e) = (fh e).bind (slC3 ra lo) := eqq rfl
@[simp] theorem slC3_ev (ra : Sl) (lo hi : Option Int) (e : Lo) : slC3 ra lo (hi, e) = slV lo hi e (view e ra) := eqq rfl
@[simp] theorem ev_slice (fa : EvF) (fl fh : EvO) (env : Lo) : fSlice fa fl fh env = (fa env).bind (slC1 fl fh) := by
  show (fa env).bind _ = _
  congr 1
  funext ⟨ra, e1⟩
  show (fl e1).bind _ = (fl e1).bind _
  congr 1
  funext ⟨lo, e2⟩
  show (fh e2).bind _ = (fh e2).bind _
  congr 1
  funext ⟨hi, e3⟩
  show (Res.ofO (view e3 ra)).bind _ = slV lo hi e3 (view e3 ra)
  cases view e3 ra with
  | none => rfl
  | some a =>
    show (Res.ofO (sliceD a lo hi)).bind _ = opE e3 (sliceD a lo hi)
    cases sliceD a lo hi <;> rfl
@[simp] theorem sliceD_list (ds : List D) (lo hi : Option Int) : sliceD (.list ds) lo hi = some (.ol (cutG ds lo hi)) := eqq rfl
@[simp] theorem sliceD_tuple (ds : List D) (lo hi : Option Int) : sliceD (.tuple ds) lo hi = some (.sh (.tuple (cutG ds lo hi))) := eqq rfl
theorem cutG_from {α : Type} (xs : List α) (k : Nat) : cutG xs (some (k : Int)) none = xs.drop k := by
  unfold cutG
  rw [HT.sIx_nat, HT.sIx_none]
  by_cases h : k ≤ xs.length
  · rw [Nat.min_eq_left h, List.take_of_length_le (by rw [List.length_drop]; exact Nat.le_refl _)]
  · rw [Nat.min_eq_right (by omega), List.drop_eq_nil_of_le (Nat.le_refl _), List.drop_eq_nil_of_le (by omega)]; simp
theorem cutG_to {α : Type} (xs : List α) (k : Nat) : cutG xs none (some (k : Int)) = xs.take k := by
  unfold cutG
  rw [HT.sIx_nat, HT.sIx_none, List.drop_zero, Nat.sub_zero]
  by_cases h : k ≤ xs.length
  · rw [Nat.min_eq_left h]
  · rw [Nat.min_eq_right (by omega), List.take_of_length_le (Nat.le_refl _), List.take_of_length_le (by omega)]
-- calls
@[simp] theorem mvi_nil (env : Lo) : moveIn env [] = ([], env) := eqq rfl
@[simp] theorem mvi_sh (env : Lo) (d : D) (rs : List Sl) : moveIn env (.sh d :: rs) = (.sh d :: (moveIn env rs).1, (moveIn env rs).2) := eqq rfl
@[simp] theorem mvi_ol (env : Lo) (d : List D) (rs : List Sl) : moveIn env (.ol d :: rs) = (.ol d :: (moveIn env rs).1, (moveIn env rs).2) := eqq rfl
@[simp] theorem mvi_sc (env : Lo) (d : List Int) (rs : List Sl) : moveIn env (.sc d :: rs) = (.sc d :: (moveIn env rs).1, (moveIn env rs).2) := eqq rfl
@[simp] theorem mvi_vw (env : Lo) (i : Nat) (rs : List Sl) : moveIn env (.vw i :: rs) = ((env[i]?.getD .no) :: (moveIn (env.set i .no) rs).1, (moveIn (env.set i .no) rs).2) := eqq rfl
@[simp] theorem mvb_nil (env : Lo) (as : List Sl) : moveBack env [] as = env := by cases as <;> rfl
@[simp] theorem mvb_sh (env : Lo) (d : D) (rs : List Sl) (a : Sl) (as : List Sl) : moveBack env (.sh d :: rs) (a :: as) = moveBack env rs as := eqq rfl
@[simp] theorem mvb_ol (env : Lo) (d : List D) (rs : List Sl) (a : Sl) (as : List Sl) : moveBack env (.ol d :: rs) (a :: as) = moveBack env rs as := eqq rfl
@[simp] theorem mvb_sc (env : Lo) (d : List Int) (rs : List Sl) (a : Sl) (as : List Sl) : moveBack env (.sc d :: rs) (a :: as) = moveBack env rs as := eqq rfl
@[simp] theorem mvb_vw (env : Lo) (i : Nat) (rs : List Sl) (a : Sl) (as : List Sl) : moveBack env (.vw i :: rs) (a :: as) = moveBack (env.set i a) rs as := eqq rfl
def callC2 (e2 : Lo) (rs : List Sl) (p : Sl × List Sl) : Res (Sl × Lo) := if isVw p.1 = true then .bad else .ok (p.1, moveBack e2 rs p.2)
def callC1 (F : Fn) (p : List Sl × Lo) : Res (Sl × Lo) := (F (moveIn p.2 p.1).1).bind (callC2 (moveIn p.2 p.1).2 p.1)
@[simp] theorem callC1_ev (F : Fn) (rs : List Sl) (e : Lo) : callC1 F (rs, e) = (F (moveIn e rs).1).bind (callC2 (moveIn e rs).2 rs) := eqq rfl
@[simp] theorem callC2_sh (e2 : Lo) (rs : List Sl) (d : D) (as : List Sl) : callC2 e2 rs (.sh d, as) = .ok (.sh d, moveBack e2 rs as) := eqq rfl
@[simp] theorem callC2_ol (e2 : Lo) (rs : List Sl) (d : List D) (as : List Sl) : callC2 e2 rs (.ol d, as) = .ok (.ol d, moveBack e2 rs as) := eqq rfl
@[simp] theorem ev_call (F : Fn) (fs : EvA) (env : Lo) : fCall F fs env = (fs env).bind (callC1 F) := eqq rfl
-- statements
@[simp] theorem ev_next (env : Lo) : fNext env = .ok (.nx env) := eqq rfl
@[simp] theorem ev_brk (env : Lo) : fBrk env = .ok (.bk env) := eqq rfl
@[simp] theorem ev_cont (env : Lo) : fCont env = .ok (.ct env) := eqq rfl
def seqC (g : EvS) : Out → Res Out
  | .nx e => g e
  | o => .ok o
@[simp] theorem seqC_nx (g : EvS) (e : Lo) : seqC g (.nx e) = g e := eqq rfl
@[simp] theorem seqC_rt (g : EvS) (r : Sl) (e : Lo) : seqC g (.rt r e) = .ok (.rt r e) := eqq rfl
@[simp] theorem seqC_bk (g : EvS) (e : Lo) : seqC g (.bk e) = .ok (.bk e) := eqq rfl
@[simp] theorem seqC_ct (g : EvS) (e : Lo) : seqC g (.ct e) = .ok (.ct e) := eqq rfl
@[simp] theorem ev_seq (f g : EvS) (env : Lo) : fSeq f g env = (f env).bind (seqC g) := by
  show (f env).bind _ = _
  cases f env with
  | ok o => cases o <;> rfl
  | bad => rfl
  | ex _ _ => rfl
@[simp] theorem asg_sh (e : Lo) (d : D) : asgR e (.sh d) = some (.sh d, e) := eqq rfl
@[simp] theorem asg_ol (e : Lo) (d : List D) : asgR e (.ol d) = some (.ol d, e) := eqq rfl
@[simp] theorem asg_od (e : Lo) (d : List (Key × D)) : asgR e (.od d) = some (.od d, e) := eqq rfl
@[simp] theorem asg_sc (e : Lo) (d : List Int) : asgR e (.sc d) = some (.sc d, e) := eqq rfl
@[simp] theorem asg_vw (e : Lo) (i : Nat) : asgR e (.vw i) = (freezeR e (.vw i)).map fun p => (.sh p.1, p.2) := eqq rfl
def asgV (i : Nat) : Option (Sl × Lo) → Res Out
  | some (r, e) => if i < e.length then .ok (.nx (e.set i r)) else .bad
  | none => .bad
@[simp] theorem asgV_some (i : Nat) (r : Sl) (e : Lo) : asgV i (some (r, e)) = if i < e.length then .ok (.nx (e.set i r)) else .bad := eqq rfl
def asgC (i : Nat) (p : Sl × Lo) : Res Out := asgV i (asgR p.2 p.1)
@[simp] theorem asgC_ev (i : Nat) (r : Sl) (e : Lo) : asgC i (r, e) = asgV i (asgR e r) := eqq rfl
@[simp] theorem ev_asg (i : Nat) (fa : EvF) (env : Lo) : fAsg i fa env = (fa env).bind (asgC i) := by
  show (fa env).bind _ = _
  congr 1
  funext ⟨r, e1⟩
  show (Res.ofO (asgR e1 r)).bind _ = asgV i (asgR e1 r)
  cases asgR e1 r <;> rfl
def dropC (p : Sl × Lo) : Res Out := .ok (.nx p.2)
@[simp] theorem dropC_ev (r : Sl) (e : Lo) : dropC (r, e) = .ok (.nx e) := eqq rfl
@[simp] theorem ev_drop (fa : EvF) (env : Lo) : fDrop fa env = (fa env).bind dropC := eqq rfl
@[simp] theorem ret_sh (e : Lo) (d : D) : retR e (.sh d) = some (.sh d, e) := eqq rfl
@[simp] theorem ret_ol (e : Lo) (d : List D) : retR e (.ol d) = some (.ol d, e) := eqq rfl
def retVw (e : Lo) (i : Nat) : Option Sl → Option (Sl × Lo)
  | some (.vw _) => none
  | some s => some (s, e.set i .no)
  | none => none
@[simp] theorem retVw_ol (e : Lo) (i : Nat) (d : List D) : retVw e i (some (.ol d)) = some (.ol d, e.set i .no) := eqq rfl
@[simp] theorem retVw_od (e : Lo) (i : Nat) (d : List (Key × D)) : retVw e i (some (.od d)) = some (.od d, e.set i .no) := eqq rfl
@[simp] theorem ret_vw (e : Lo) (i : Nat) : retR e (.vw i) = retVw e i e[i]? := by
  show (match e[i]? with | some (Sl.vw _) => none | some s => some (s, e.set i .no) | none => none) = _
  unfold retVw
  cases e[i]? with
  | none => rfl
  | some s => cases s <;> rfl
def retV : Option (Sl × Lo) → Res Out
  | some (r, e) => .ok (.rt r e)
  | none => .bad
@[simp] theorem retV_some (r : Sl) (e : Lo) : retV (some (r, e)) = .ok (.rt r e) := eqq rfl
def retC (p : Sl × Lo) : Res Out := retV (retR p.2 p.1)
@[simp] theorem retC_ev (r : Sl) (e : Lo) : retC (r, e) = retV (retR e r) := eqq rfl
@[simp] theorem ev_ret (fa : EvF) (env : Lo) : fRet fa env = (fa env).bind retC := by
  show (fa env).bind _ = _
  congr 1
  funext ⟨r, e1⟩
  show (Res.ofO (retR e1 r)).bind _ = retV (retR e1 r)
  cases retR e1 r <;> rfl
@[simp] theorem ev_retN (env : Lo) : fRetN env = .ok (.rt (.sh .none) env) := eqq rfl
def ifSC (f g : EvS) : Bool × Lo → Res Out
  | (true, e) => f e
  | (false, e) => g e
@[simp] theorem ifSC_t (f g : EvS) (e : Lo) : ifSC f g (true, e) = f e := eqq rfl
@[simp] theorem ifSC_f (f g : EvS) (e : Lo) : ifSC f g (false, e) = g e := eqq rfl
@[simp] theorem ev_ifS (ft : EvT) (f g : EvS) (env : Lo) : fIfS ft f g env = (ft env).bind (ifSC f g) := by
  show (ft env).bind _ = _
  congr 1
  funext ⟨b, e1⟩
  cases b <;> rfl
-- methods
def mutV (i : Nat) (op : List D → List D → Option (List D × D)) (es : List D) (e : Lo) : Option Sl → Res (Sl × Lo)
  | some (.ol ds) => match op ds es with
    | some (ds', y) => .ok (.sh y, e.set i (.ol ds'))
    | none => .bad
  | _ => .bad
def mutF (i : Nat) (op : List D → List D → Option (List D × D)) : Option (List D × Lo) → Res (Sl × Lo)
  | some (es, e) => mutV i op es e e[i]?
  | none => .bad
def mutC (i : Nat) (op : List D → List D → Option (List D × D)) (p : List Sl × Lo) : Res (Sl × Lo) := mutF i op (freezeAll p.2 p.1)
def mutS (i : Nat) (op : List D → List D → Option (List D × D)) (fs : EvA) (env : Lo) : Option Sl → Res (Sl × Lo)
  | some (.ol _) => (fs env).bind (mutC i op)
  | _ => .bad
@[simp] theorem mutS_ol (i : Nat) (op : List D → List D → Option (List D × D)) (fs : EvA) (env : Lo) (ds : List D) : mutS i op fs env (some (.ol ds)) = (fs env).bind (mutC i op) := eqq rfl
@[simp] theorem mutC_ev (i : Nat) (op : List D → List D → Option (List D × D)) (rs : List Sl) (e : Lo) : mutC i op (rs, e) = mutF i op (freezeAll e rs) := eqq rfl
@[simp] theorem mutF_some (i : Nat) (op : List D → List D → Option (List D × D)) (es : List D) (e : Lo) : mutF i op (some (es, e)) = mutV i op es e e[i]? := eqq rfl
theorem mutV_ol {i : Nat} {op : List D → List D → Option (List D × D)} {es : List D} {e : Lo} {ds ds' : List D} {y : D} (h : op ds es = some (ds', y)) : mutV i op es e (some (.ol ds)) = .ok (.sh y, e.set i (.ol ds')) := by
  unfold mutV
  simp [h]
@[simp] theorem ev_mut (i : Nat) (op : List D → List D → Option (List D × D)) (fs : EvA) (env : Lo) : fMut i op fs env = mutS i op fs env env[i]? := by
  unfold fMut mutS
  split
  · rename_i ds h
    try rw [h]
    show (fs env).bind _ = (fs env).bind _
    congr 1
    funext ⟨rs, e1⟩
    show (Res.ofO (freezeAll e1 rs)).bind _ = mutF i op (freezeAll e1 rs)
    cases freezeAll e1 rs with
    | none => rfl
    | some p =>
      obtain ⟨es, e2⟩ := p
      have key : ∀ o : Option Sl, o = e2[i]? → (match o with | some (Sl.ol ds) => (do let (ds', y) ← Res.ofO (op ds es); Res.ok (Sl.sh y, e2.set i (.ol ds'))) | _ => Res.bad) = mutV i op es e2 o := by
        intro o ho
        cases o with
        | none => rfl
        | some s =>
          cases s <;> first | rfl | skip
          rename_i ds2
          show (Res.ofO (op ds2 es)).bind _ = (match op ds2 es with | some (ds', y) => _ | none => Res.bad)
          cases op ds2 es with
          | none => rfl
          | some q => obtain ⟨a, b⟩ := q; rfl
      exact key _ rfl
  · rename_i h
    first
    | rfl
    | (split
       · rename_i ds3 h3; exact absurd h3 (h ds3)
       · rfl)
@[simp] theorem mutV_append (i : Nat) (d : D) (e : Lo) (ds : List D) : mutV i appendM [d] e (some (.ol ds)) = if ds.length < 16777216 then .ok (.sh .none, e.set i (.ol (ds ++ [d]))) else .bad := by
  unfold mutV appendM
  by_cases h : ds.length < 16777216 <;> simp [h]
@[simp] theorem mutV_clear (i : Nat) (e : Lo) (ds : List D) : mutV i clearM [] e (some (.ol ds)) = .ok (.sh .none, e.set i (.ol [])) := eqq rfl
@[simp] theorem mutV_reverse (i : Nat) (e : Lo) (ds : List D) : mutV i reverseM [] e (some (.ol ds)) = .ok (.sh .none, e.set i (.ol ds.reverse)) := eqq rfl
@[simp] theorem mutV_extend (i : Nat) (d : List D) (e : Lo) (ds : List D) : mutV i extendM [.list d] e (some (.ol ds)) = if ds.length + d.length ≤ 16777216 then .ok (.sh .none, e.set i (.ol (ds ++ d))) else .bad := by
  unfold mutV extendM
  by_cases h : ds.length + d.length ≤ 16777216 <;> simp [h]
-- walks
def iterV : Option (D × Lo) → Res (List Sl × List D × Lo)
  | some (.list ds, e) => .ok ([.sh (.list ds)], ds, e)
  | some (.tuple ds, e) => .ok ([.sh (.tuple ds)], ds, e)
  | _ => .bad
@[simp] theorem iterV_list (ds : List D) (e : Lo) : iterV (some (.list ds, e)) = .ok ([.sh (.list ds)], ds, e) := eqq rfl
@[simp] theorem iterV_tuple (ds : List D) (e : Lo) : iterV (some (.tuple ds, e)) = .ok ([.sh (.tuple ds)], ds, e) := eqq rfl
def iterC (p : Sl × Lo) : Res (List Sl × List D × Lo) := iterV (freezeR p.2 p.1)
@[simp] theorem iterC_ev (r : Sl) (e : Lo) : iterC (r, e) = iterV (freezeR e r) := eqq rfl
@[simp] theorem ev_iter (fa : EvF) (env : Lo) : fIter fa env = (fa env).bind iterC := by
  show (fa env).bind _ = _
  congr 1
  funext ⟨r, e1⟩
  show (Res.ofO (freezeR e1 r)).bind _ = iterV (freezeR e1 r)
  cases freezeR e1 r with
  | none => rfl
  | some p => obtain ⟨d, e2⟩ := p; cases d <;> rfl
def rngV (rs : List Sl) (e1 : Lo) : Res (List Sl × List D × Lo) :=
  match rs with
  | [.sh (.int j)] => if -(2 ^ 62) ≤ j ∧ j < 2 ^ 62 then .ok ([], rngD 0 j.toNat, e1) else .bad
  | [.sh (.int i), .sh (.int j)] => if -(2 ^ 62) ≤ i ∧ i < 2 ^ 62 ∧ -(2 ^ 62) ≤ j ∧ j < 2 ^ 62 then .ok ([], rngD i (j - i).toNat, e1) else .bad
  | _ => .bad
def rngC (p : List Sl × Lo) : Res (List Sl × List D × Lo) := rngV p.1 p.2
@[simp] theorem rngC_1 (j : Int) (e : Lo) : rngC ([.sh (.int j)], e) = if -(2 ^ 62) ≤ j ∧ j < 2 ^ 62 then .ok ([], rngD 0 j.toNat, e) else .bad := eqq rfl
@[simp] theorem rngC_2 (i j : Int) (e : Lo) : rngC ([.sh (.int i), .sh (.int j)], e) = if -(2 ^ 62) ≤ i ∧ i < 2 ^ 62 ∧ -(2 ^ 62) ≤ j ∧ j < 2 ^ 62 then .ok ([], rngD i (j - i).toNat, e) else .bad := eqq rfl
@[simp] theorem ev_rng (fs : EvA) (env : Lo) : fRng fs env = (fs env).bind rngC := eqq rfl
def zipV : Option (List D × Lo) → Res (List Sl × List D × Lo)
  | some ([a, b], e) => match seqOf a, seqOf b with
    | some xs, some ys => .ok ([.sh a, .sh b], zipD xs ys, e)
    | _, _ => .bad
  | _ => .bad
@[simp] theorem zipV_some (a b : D) (e : Lo) : zipV (some ([a, b], e)) = match seqOf a, seqOf b with
    | some xs, some ys => .ok ([.sh a, .sh b], zipD xs ys, e)
    | _, _ => .bad := eqq rfl
@[simp] theorem seqOf_list (ds : List D) : seqOf (.list ds) = some ds := eqq rfl
@[simp] theorem seqOf_tuple (ds : List D) : seqOf (.tuple ds) = some ds := eqq rfl
def zipC (p : List Sl × Lo) : Res (List Sl × List D × Lo) := zipV (freezeAll p.2 p.1)
@[simp] theorem zipC_ev (rs : List Sl) (e : Lo) : zipC (rs, e) = zipV (freezeAll e rs) := eqq rfl
@[simp] theorem ev_zip (fs : EvA) (env : Lo) : fZip fs env = (fs env).bind zipC := by
  show (fs env).bind _ = _
  congr 1
  funext ⟨rs, e1⟩
  show (Res.ofO (freezeAll e1 rs)).bind _ = zipV (freezeAll e1 rs)
  cases freezeAll e1 rs with
  | none => rfl
  | some p =>
    obtain ⟨ds, e2⟩ := p
    match ds with
    | [] => rfl
    | [_] => rfl
    | [a, b] =>
      show (Res.ofO (seqOf a)).bind _ = (match seqOf a, seqOf b with | some xs, some ys => _ | _, _ => Res.bad)
      cases seqOf a with
      | none => rfl
      | some xs =>
        show (Res.ofO (seqOf b)).bind _ = _
        cases seqOf b <;> rfl
    | _ :: _ :: _ :: _ => rfl
def forC (tg : Tgt) (b : EvS) (p : List Sl × List D × Lo) : Res Out := loopF tg b p.2.1 p.2.2
@[simp] theorem forC_ev (tg : Tgt) (b : EvS) (ks : List Sl) (ds : List D) (e : Lo) : forC tg b (ks, ds, e) = loopF tg b ds e := eqq rfl
@[simp] theorem ev_for (fi : EvI) (tg : Tgt) (b : EvS) (env : Lo) : fFor fi tg b env = (fi env).bind (forC tg b) := eqq rfl
def lcC2 (e1 : Lo) (own : List Nat) (p : List D × Lo) : Res (Sl × Lo) := .ok (.ol p.1, restoreE e1 own p.2)
@[simp] theorem lcC2_ev (e1 : Lo) (own : List Nat) (acc : List D) (e : Lo) : lcC2 e1 own (acc, e) = .ok (.ol acc, restoreE e1 own e) := eqq rfl
def lcC (tg : Tgt) (ft : EvT) (fe : EvF) (own : List Nat) (p : List Sl × List D × Lo) : Res (Sl × Lo) :=
  if ∀ j ∈ own, j < p.2.2.length then (compF tg ft fe own p.2.1 [] (wipeE p.2.2 own)).bind (lcC2 p.2.2 own) else .bad
@[simp] theorem lcC_ev (tg : Tgt) (ft : EvT) (fe : EvF) (own : List Nat) (ks : List Sl) (ds : List D) (e : Lo) : lcC tg ft fe own (ks, ds, e) = if ∀ j ∈ own, j < e.length then (compF tg ft fe own ds [] (wipeE e own)).bind (lcC2 e own) else .bad := eqq rfl
@[simp] theorem ev_lc (fi : EvI) (tg : Tgt) (ft : EvT) (fe : EvF) (own : List Nat) (env : Lo) : fLc fi tg ft fe own env = (fi env).bind (lcC tg ft fe own) := eqq rfl
@[simp] theorem wipeE_nil (e : Lo) : wipeE e [] = e := eqq rfl
@[simp] theorem wipeE_cons (e : Lo) (v : Nat) (vs : List Nat) : wipeE e (v :: vs) = (wipeE e vs).set v .no := eqq rfl
@[simp] theorem restoreE_nil (e e' : Lo) : restoreE e [] e' = e' := eqq rfl
@[simp] theorem restoreE_cons (e : Lo) (v : Nat) (vs : List Nat) (e' : Lo) : restoreE e (v :: vs) e' = restoreE e vs (e'.set v ((wipeE e vs)[v]?.getD .no)) := eqq rfl
-- unpacking
def unpV : Option Lo → Res Out
  | some e => .ok (.nx e)
  | none => .bad
@[simp] theorem unpV_some (e : Lo) : unpV (some e) = .ok (.nx e) := eqq rfl
def unpF (is : List Nat) : Option (D × Lo) → Res Out
  | some (d, e) => unpV (bindT (.tp is) d e)
  | none => .bad
@[simp] theorem unpF_some (is : List Nat) (d : D) (e : Lo) : unpF is (some (d, e)) = unpV (bindT (.tp is) d e) := eqq rfl
def unpC (is : List Nat) (p : Sl × Lo) : Res Out := unpF is (freezeR p.2 p.1)
@[simp] theorem unpC_ev (is : List Nat) (r : Sl) (e : Lo) : unpC is (r, e) = unpF is (freezeR e r) := eqq rfl
@[simp] theorem ev_unp (is : List Nat) (fa : EvF) (env : Lo) : fUnp is fa env = (fa env).bind (unpC is) := by
  show (fa env).bind _ = _
  congr 1
  funext ⟨r, e1⟩
  show (Res.ofO (freezeR e1 r)).bind _ = unpF is (freezeR e1 r)
  cases freezeR e1 r with
  | none => rfl
  | some p =>
    obtain ⟨d, e2⟩ := p
    show (Res.ofO (bindT (.tp is) d e2)).bind _ = unpV (bindT (.tp is) d e2)
    cases bindT (.tp is) d e2 <;> rfl
def unlF (is : List Nat) : Option (D × Lo) → Res Out
  | some (.list ds, e) => unpV (setAll e is ds)
  | _ => .bad
@[simp] theorem unlF_some (is : List Nat) (ds : List D) (e : Lo) : unlF is (some (.list ds, e)) = unpV (setAll e is ds) := eqq rfl
def unlC (is : List Nat) (p : Sl × Lo) : Res Out := unlF is (freezeR p.2 p.1)
@[simp] theorem unlC_ev (is : List Nat) (r : Sl) (e : Lo) : unlC is (r, e) = unlF is (freezeR e r) := eqq rfl
@[simp] theorem ev_unl (is : List Nat) (fa : EvF) (env : Lo) : fUnl is fa env = (fa env).bind (unlC is) := by
  show (fa env).bind _ = _
  congr 1
  funext ⟨r, e1⟩
  show (Res.ofO (freezeR e1 r)).bind _ = unlF is (freezeR e1 r)
  cases freezeR e1 r with
  | none => rfl
  | some p =>
    obtain ⟨d, e2⟩ := p
    cases d <;> first | rfl | skip
    rename_i ds
    show (Res.ofO (setAll e2 is ds)).bind _ = unpV (setAll e2 is ds)
    cases setAll e2 is ds <;> rfl
@[simp] theorem bindT_nm (i : Nat) (d : D) (e : Lo) : bindT (.nm i) d e = if i < e.length then some (e.set i (.sh d)) else none := eqq rfl
@[simp] theorem bindT_tp (is : List Nat) (ds : List D) (e : Lo) : bindT (.tp is) (.tuple ds) e = setAll e is ds := eqq rfl
@[simp] theorem setAll_nil (e : Lo) : setAll e [] [] = some e := eqq rfl
@[simp] theorem setAll_cons (e : Lo) (i : Nat) (is : List Nat) (d : D) (ds : List D) : setAll e (i :: is) (d :: ds) = if i < e.length then setAll (e.set i (.sh d)) is ds else none := eqq rfl
-- the script
def scL (env : Lo) : Option Sl → Res (Sl × Lo)
  | some (.sc ns) => .ok (.sh (.int ns.length), env)
  | _ => .bad
@[simp] theorem scL_sc (env : Lo) (ns : List Int) : scL env (some (.sc ns)) = .ok (.sh (.int ns.length), env) := eqq rfl
@[simp] theorem ev_scLen (i : Nat) (env : Lo) : fScLen i env = scL env env[i]? := by
  unfold fScLen scL
  split <;> simp_all
def scV (e : Lo) : Option Int → Res (Sl × Lo)
  | some n => .ok (.sh (.int n), e)
  | none => .bad
@[simp] theorem scV_some (e : Lo) (n : Int) : scV e (some n) = .ok (.sh (.int n), e) := eqq rfl
def scC (ns : List Int) : Sl × Lo → Res (Sl × Lo)
  | (.sh (.int k), e) => scV e (atI ns k)
  | _ => .bad
@[simp] theorem scC_ev (ns : List Int) (k : Int) (e : Lo) : scC ns (.sh (.int k), e) = scV e (atI ns k) := eqq rfl
def scS (fb : EvF) (env : Lo) : Option Sl → Res (Sl × Lo)
  | some (.sc ns) => (fb env).bind (scC ns)
  | _ => .bad
@[simp] theorem scS_sc (fb : EvF) (env : Lo) (ns : List Int) : scS fb env (some (.sc ns)) = (fb env).bind (scC ns) := eqq rfl
@[simp] theorem ev_scIx (i : Nat) (fb : EvF) (env : Lo) : fScIx i fb env = scS fb env env[i]? := by
  unfold fScIx scS
  split
  · rename_i ns h
    try rw [h]
    show (fb env).bind _ = (fb env).bind _
    congr 1
    funext ⟨r, e1⟩
    cases r <;> first | rfl | skip
    rename_i d
    cases d <;> first | rfl | skip
    rename_i k
    show (Res.ofO (atI ns k)).bind _ = scV e1 (atI ns k)
    cases atI ns k <;> rfl
  · rename_i h
    first
    | rfl
    | (split
       · rename_i ns h3; exact absurd h3 (h ns)
       · rfl)
-- defs
def runC (io : List Nat) (n : Nat) : Out → Res (Sl × List Sl)
  | .nx env => if n ≤ env.length then .ok (.sh .none, backArgs io n env) else .bad
  | .rt r env => if n ≤ env.length then .ok (r, backArgs io n env) else .bad
  | _ => .bad
@[simp] theorem runC_nx (io : List Nat) (n : Nat) (env : Lo) : runC io n (.nx env) = if n ≤ env.length then .ok (.sh .none, backArgs io n env) else .bad := eqq rfl
@[simp] theorem runC_rt (io : List Nat) (n : Nat) (r : Sl) (env : Lo) : runC io n (.rt r env) = if n ≤ env.length then .ok (r, backArgs io n env) else .bad := eqq rfl
theorem run_eq (m n : Nat) (io : List Nat) (b : EvS) (args : List Sl) : runFn m n io b args = (b (args ++ List.replicate (m - n) .no)).bind (runC io n) := by
  show (b (args ++ List.replicate (m - n) .no)).bind _ = _
  cases b (args ++ List.replicate (m - n) .no) with
  | ok o => cases o <;> rfl
  | bad => rfl
  | ex _ _ => rfl
theorem backArgs_eq (io : List Nat) (n : Nat) (env : Lo) : backArgs io n env = (List.range n).map fun k => if k ∈ io then env[k]?.getD .no else .no := rfl
-- turns that are written out
def loopC2 (tg : Tgt) (b : EvS) (ds : List D) : Out → Res Out
  | .nx e => loopF tg b ds e
  | .ct e => loopF tg b ds e
  | .bk e => .ok (.nx e)
  | .rt r e => .ok (.rt r e)
@[simp] theorem loopC2_nx (tg : Tgt) (b : EvS) (ds : List D) (e : Lo) : loopC2 tg b ds (.nx e) = loopF tg b ds e := eqq rfl
@[simp] theorem loopC2_ct (tg : Tgt) (b : EvS) (ds : List D) (e : Lo) : loopC2 tg b ds (.ct e) = loopF tg b ds e := eqq rfl
@[simp] theorem loopC2_bk (tg : Tgt) (b : EvS) (ds : List D) (e : Lo) : loopC2 tg b ds (.bk e) = .ok (.nx e) := eqq rfl
@[simp] theorem loopC2_rt (tg : Tgt) (b : EvS) (ds : List D) (r : Sl) (e : Lo) : loopC2 tg b ds (.rt r e) = .ok (.rt r e) := eqq rfl
def loopC1 (tg : Tgt) (b : EvS) (ds : List D) : Option Lo → Res Out
  | some e => (b e).bind (loopC2 tg b ds)
  | none => .bad
@[simp] theorem loopC1_some (tg : Tgt) (b : EvS) (ds : List D) (e : Lo) : loopC1 tg b ds (some e) = (b e).bind (loopC2 tg b ds) := eqq rfl
@[simp] theorem loop_nil (tg : Tgt) (b : EvS) (e : Lo) : loopF tg b [] e = .ok (.nx e) := eqq rfl
@[simp] theorem loop_cons (tg : Tgt) (b : EvS) (d : D) (ds : List D) (e : Lo) : loopF tg b (d :: ds) e = loopC1 tg b ds (bindT tg d e) := by
  show (Res.ofO (bindT tg d e)).bind _ = _
  cases bindT tg d e with
  | none => rfl
  | some e1 =>
    show (b e1).bind _ = (b e1).bind _
    cases b e1 with
    | ok o => cases o <;> rfl
    | bad => rfl
    | ex _ _ => rfl
/-! ### loops, by what holds before each turn -/
theorem loop_inv {tg : Tgt} {b : EvS} (Iv : Nat → Lo → Prop) (ds : List D) {env : Lo} (h0 : Iv 0 env) (hs : ∀ i d e, ds[i]? = some d → Iv i e → ∃ e1 e2, bindT tg d e = some e1 ∧ (b e1 = .ok (.nx e2) ∨ b e1 = .ok (.ct e2)) ∧ Iv (i + 1) e2) :
    ∃ e', loopF tg b ds env = .ok (.nx e') ∧ Iv ds.length e' := by
  have key : ∀ (ds : List D) (k : Nat) (env : Lo), Iv k env → (∀ i d e, ds[i]? = some d → Iv (k + i) e → ∃ e1 e2, bindT tg d e = some e1 ∧ (b e1 = .ok (.nx e2) ∨ b e1 = .ok (.ct e2)) ∧ Iv (k + i + 1) e2) → ∃ e', loopF tg b ds env = .ok (.nx e') ∧ Iv (k + ds.length) e' := by
    intro ds
    induction ds with
    | nil => intro k env h _; exact ⟨env, rfl, h⟩
    | cons d ds ih =>
      intro k env h hs
      obtain ⟨e1, e2, q1, q2, q3⟩ := hs 0 d env rfl h
      obtain ⟨e', r1, r2⟩ := ih (k + 1) e2 q3 fun i d e hd hi => by
        have := hs (i + 1) d e (by simpa using hd) (by rw [show k + (i + 1) = k + 1 + i by omega]; exact hi)
        rw [show k + (i + 1) + 1 = k + 1 + i + 1 by omega] at this
        exact this
      refine ⟨e', ?_, by rw [List.length_cons, show k + (ds.length + 1) = k + 1 + ds.length by omega]; exact r2⟩
      show (Res.ofO (bindT tg d env)).bind _ = _
      rw [q1]
      show (b e1).bind _ = _
      rcases q2 with q2 | q2 <;> rw [q2] <;> exact r1
  have := key ds 0 env h0 fun i d e hd hi => by simpa using hs i d e hd (by simpa using hi)
  simpa using this
theorem rng_len (i : Int) (n : Nat) : (rngD i n).length = n := by simp [rngD]
theorem rng_get {n i : Nat} {d : D} (h : (rngD 0 n)[i]? = some d) : i < n ∧ d = .int (i : Int) := by
  have hi : i < n := by
    have := (List.getElem?_eq_some_iff.mp h).1
    rwa [rng_len] at this
  have h2 : (rngD 0 n)[i]? = some (.int (0 + (i : Int))) := by simp [rngD, hi]
  rw [h2] at h
  injection h with h
  exact ⟨hi, by rw [← h, Int.zero_add]⟩
/-- a comprehension whose element changes nothing -/
theorem comp_map {tg : Tgt} {ft : EvT} {fe : EvF} {own : List Nat} {E : Lo} (g : D → D) : ∀ (ds acc : List D), ds.length + acc.length ≤ 16777216 →
    (∀ d ∈ ds, ∃ e1 r e3, bindT tg d E = some e1 ∧ ft e1 = .ok (true, e1) ∧ fe e1 = .ok (r, e3) ∧ (∃ e4, freezeR e3 r = some (g d, e4) ∧ wipeE e4 own = E)) → compF tg ft fe own ds acc E = .ok (acc ++ ds.map g, E)
  | [], acc, _, _ => by simp [compF]
  | d :: ds, acc, hl, h => by
    obtain ⟨e1, r, e3, q1, q2, q3, e4, q4, q5⟩ := h d List.mem_cons_self
    have hl' : ds.length + (acc ++ [g d]).length ≤ 16777216 := by simp at hl ⊢; omega
    have ih := comp_map g ds (acc ++ [g d]) hl' fun x hx => h x (List.mem_cons_of_mem _ hx)
    show (Res.ofO (bindT tg d E)).bind _ = _
    rw [q1]
    show (ft e1).bind _ = _
    rw [q2]
    show (fe e1).bind _ = _
    rw [q3]
    show (Res.ofO (freezeR e3 r)).bind _ = _
    rw [q4]
    show (if acc.length < 16777216 then compF tg ft fe own ds (acc ++ [g d]) (wipeE e4 own) else .bad) = _
    rw [if_pos (by simp at hl; omega), q5, ih]
    simp
end FL

/-! FB: sizes of numbers -/
namespace FL
open PySem PySem.Spec PyProof.Rows L2
/-- below 2 ^ k in size -/
def Bd (k : Nat) (x : Int) : Prop := x.natAbs < 2 ^ k
theorem Bd.mono {k m : Nat} {x : Int} (h : Bd k x) (hk : k ≤ m) : Bd m x := Nat.lt_of_lt_of_le h (Nat.pow_le_pow_right (by decide) hk)
theorem Bd.add {a b k : Nat} {x y : Int} (hx : Bd a x) (hy : Bd b y) (ha : a < k) (hb : b < k) : Bd k (x + y) := by
  unfold Bd at *
  obtain ⟨k, rfl⟩ : ∃ m, k = m + 1 := ⟨k - 1, by omega⟩
  have h1 : 2 ^ a ≤ 2 ^ k := Nat.pow_le_pow_right (by decide) (by omega)
  have h2 : 2 ^ b ≤ 2 ^ k := Nat.pow_le_pow_right (by decide) (by omega)
  have h3 : 2 ^ (k + 1) = 2 * 2 ^ k := by rw [Nat.pow_succ]; omega
  omega
theorem Bd.sub {a b k : Nat} {x y : Int} (hx : Bd a x) (hy : Bd b y) (ha : a < k) (hb : b < k) : Bd k (x - y) := by
  unfold Bd at *
  obtain ⟨k, rfl⟩ : ∃ m, k = m + 1 := ⟨k - 1, by omega⟩
  have h1 : 2 ^ a ≤ 2 ^ k := Nat.pow_le_pow_right (by decide) (by omega)
  have h2 : 2 ^ b ≤ 2 ^ k := Nat.pow_le_pow_right (by decide) (by omega)
  have h3 : 2 ^ (k + 1) = 2 * 2 ^ k := by rw [Nat.pow_succ]; omega
  omega
theorem Bd.neg {k : Nat} {x : Int} (hx : Bd k x) : Bd k (-x) := by unfold Bd at *; omega
theorem Bd.mul {a b : Nat} {x y : Int} (hx : Bd a x) (hy : Bd b y) : Bd (a + b) (x * y) := wide_lt hx hy
theorem Bd.pow {a : Nat} {x : Int} (hx : Bd a x) : ∀ n : Nat, 0 < n → Bd (a * n) (x ^ n)
  | 0, h => absurd h (by decide)
  | 1, _ => by rw [Int.pow_succ, Int.pow_zero, Int.one_mul, Nat.mul_one]; exact hx
  | n + 2, _ => by
    have ih := Bd.pow hx (n + 1) (by omega)
    rw [Int.pow_succ, show a * (n + 2) = a * (n + 1) + a by rw [Nat.mul_succ]]
    exact ih.mul hx
theorem Bd.lit {k : Nat} {x : Int} (h : x.natAbs < 2 ^ k := by decide) : Bd k x := h
theorem Bd.range {k : Nat} {x : Int} {m : Nat} (h1 : -(m : Int) ≤ x) (h2 : x ≤ (m : Int)) (hm : m < 2 ^ k := by decide) : Bd k x := by unfold Bd; omega
theorem Bd.mOk {a b : Nat} {x y : Int} (hx : Bd a x) (hy : Bd b y) (h : a + b ≤ 900000) : mulOk x y = true := by
  refine mulOk_log (show CMulW x y from wide_mul (a := a + 1) (b := b + 1) (hx.mono (by omega)) (hy.mono (by omega)) (by omega) (by omega) (by omega))
theorem Bd.dOk {b : Nat} {x y : Int} (h0 : y ≠ 0) (hy : Bd b y) (h : b ≤ 8999) : divOk x y = true := by
  unfold divOk
  rw [PyProof.noPylong_of_log2 (Nat.lt_of_lt_of_le (PySem.Flt.log2_lt_of (k := b + 1) (by omega) (hy.mono (by omega))) (by omega))]
  simpa using h0
theorem divOk_small {x y : Int} (h0 : y ≠ 0) (hy : y.natAbs < 1073741824) : divOk x y = true := by
  unfold divOk
  rw [PyProof.noPylong_small hy]
  simpa using h0
theorem Bd.mod {k : Nat} {x y : Int} (hy : Bd k y) (h0 : 0 < y) : Bd k (x % y) := by
  have h1 := Int.emod_nonneg x (show y ≠ 0 by omega)
  have h2 := Int.emod_lt_of_pos x h0
  unfold Bd at *; omega
theorem Bd.zero {k : Nat} : Bd k 0 := by
  unfold Bd
  exact Nat.two_pow_pos k
theorem Bd.sum {k : Nat} : ∀ (xs : List Int), (∀ x ∈ xs, Bd k x) → Bd (k + xs.length) xs.sum
  | [], _ => by
    show Bd _ 0
    exact .zero
  | x :: xs, h => by
    rw [List.sum_cons, List.length_cons]
    have h1 := h x List.mem_cons_self
    have h2 := Bd.sum xs fun y hy => h y (List.mem_cons_of_mem _ hy)
    exact (h1.add h2 (by omega) (by omega))
theorem fdiv_pos {x y : Int} (h : 0 < y) : x.fdiv y = x / y := Int.fdiv_eq_ediv_of_nonneg x (by omega)
end FL

/-! FM: list(reversed(x)), ranges that go down, xs[i] = v -/
namespace FL
open PySem PySem.Spec PyProof.Rows RT
section
variable {prog : Program} {w : World} {A : Around} {E : Value → Shared → Prop} {s : Shared}
theorem list_init_rev {R : Result → Shared → Prop} {it l : Addr} {items : Array Value} (hh : A.handled = none) (hit : s.heap.IsRevIter it l ((items.size : Int) - 1)) (hl : s.heap.IsList l items) (hne : l ≠ it) (hn : items.size ≤ sizeLine)
    (S : Addr) (hSi : S ≠ it) (hSl : S ≠ l) (hS : s.heap.get? S = some { cls := .type "list", data := .seq #[] })
    (hR : ∀ h' tk acc' c', (∀ b o, b ≠ S → b ≠ it → s.heap.get? b = some o → h'.get? b = some o) → h'.get? S = some { cls := .type "list", dict := none, data := .seq acc' c', slots := #[] } →
      ItemsOf (fun i v => items[items.size - 1 - i]? = some v) acc' items.size → R (.ok (.ret .none)) { s with heap := h', toks := tk }) :
    wpAny (model prog w) A.in1 (Builtin.«list.__init__» ⟨[.ref S, .ref it], []⟩)
      (fun fin s' => match fin with | .done f => R (.ok f) s' | .again c' => c'.quiet = true ∧ codeAny (model prog w) A c' R s') (fun e s' => R (.error e) s') s := by
  have W := (Walks.listRev (prog := prog) (w := w) (A := A.in1) hh it l hne items).toS
  have hSf : S ∉ [it, l] := by simp only [List.mem_cons, List.not_mem_nil, or_false, not_or]; exact ⟨hSi, hSl⟩
  show wpAny _ _ (do let old ← Builtin.List.listItems (.ref S); Builtin.List.listUpdate (.ref S) (fun _ => #[]); letGo old.toList.reverse; Builtin.List.listExtendWith (.ref S) (.ref it) .none) _ _ s
  refine wpAny_bind ?_
  unfold Builtin.List.listItems
  refine wpAny_bind (wpAny_seqItems hS rfl (wpAny_pure ?_))
  show wpAny _ _ (updateSeq S (fun _ => #[]) >>= fun _ => letGo (#[] : Array Value).toList.reverse >>= fun _ => Builtin.List.listExtendWith (.ref S) (.ref it) .none) _ _ s
  refine wpAny_bind (wpAny_updateSeq hS rfl ?_)
  have hS₂ := Heap.get?_update_self (Obj.mapSeq (fun _ => (#[] : Array Value))) hS rfl
  have oth : ∀ b o, b ≠ S → s.heap.get? b = some o → (s.heap.update S (Obj.mapSeq (fun _ => (#[] : Array Value)))).get? b = some o :=
    fun b o hb e => (Heap.get?_update_other _ _ (Ne.symm hb)).trans e
  refine wpAny_bind (wpAny_letGo ?_)
  generalize hh2 : s.heap.update S (Obj.mapSeq (fun _ => (#[] : Array Value))) = h2 at hS₂ oth ⊢
  have hit1 : h2.IsRevIter it l ((items.size : Int) - 1) := hit.at fun o e => oth it o (Ne.symm hSi) e
  have hl1 : h2.IsList l items := let ⟨o, e, r⟩ := hl; ⟨o, oth l o (Ne.symm hSl) e, r⟩
  have hT : ({ s with heap := h2 } : Shared).TypeIs (.ref it) "list_reverseiterator" := Heap.IsRevIter.typeIs (s := { s with heap := h2 }) hit1
  have h1 : Builtin.List.listSameRef (.ref S) (.ref it) = false := by simp [Builtin.List.listSameRef, hSi]
  unfold Builtin.List.listExtendWith
  refine wpAny_bind (wpAny_typeOf hT ?_)
  rw [if_neg (by rw [h1]; decide)]
  refine wpAny_bind (wpAny_pyIter_revIter (s := { s with heap := h2 }) hit1 ?_)
  refine wpAny_bind (wpAny_holding ?_)
  unfold Builtin.List.listLengthHint
  refine wpAny_bind (wpAny_specialOf hT nolen_lri ?_)
  show wpAny _ A.in1 (specialOf (Value.ref it) (Str.ofString "__length_hint__") >>= _) _ _ _
  refine wpAny_bind (wpAny_specialOf hT hint_lri ?_)
  generalize hid : ("list_reverseiterator.__length_hint__" : String) = id0
  wp_delta
  rw [show splitId id0 = some ("list_reverseiterator", "__length_hint__") from by subst hid; decide +kernel]
  subst hid
  refine wpAny_bind (wpAny_isInstance (b := true) hT (by rw [isSubtype_type]; kernel_rfl) ?_)
  refine wpAny_pure ?_
  rw [if_neg (by decide)]
  have e0 : ((items.size : Nat) : Int) - 1 - ((0 : Nat) : Int) = (items.size : Int) - 1 := by omega
  refine wpAny_pure ⟨plainId_quiet F.plain_extend_loop _, codeAny_extend_loopS W hn S hSf _ items.size 0 _ _ _ rfl (Nat.zero_le _) ⟨Nat.zero_le _, by rw [e0]; exact hit1, hl1⟩ hS₂ (ItemsOf.nil _) fun s' acc' c' hm hS' hacc => ?_⟩
  rw [Moved.eq_with hm]
  refine hR s'.heap s'.toks acc' c' (fun b o hb hb2 e => hm.heap b o (fun hmem => ?_) (oth b o hb e)) hS' hacc
  rcases List.mem_cons.mp hmem with e' | hmem
  · exact hb e'
  · exact hb2 (List.mem_singleton.mp hmem)
theorem call_list_rev {it l : Addr} {items : Array Value} {Q : Value → Shared → Prop} (hh : A.handled = none) (hit : s.heap.IsRevIter it l ((items.size : Int) - 1)) (hl : s.heap.IsList l items) (hne : l ≠ it) (hn : items.size ≤ sizeLine)
    (hQ : ∀ h' tk acc' c', (∀ b o, b ≠ it → s.heap.get? b = some o → h'.get? b = some o) → h'.get? s.heap.objs.size = some { cls := .type "list", dict := none, data := .seq acc' c', slots := #[] } →
      ItemsOf (fun i v => items[items.size - 1 - i]? = some v) acc' items.size → Q (.ref s.heap.objs.size) { s with heap := h', toks := tk }) :
    wpAny (model prog w) A (call (.type "list") [.ref it]) Q E s := by
  refine callType_codes (Q₁ := fun obj s₁ => obj = .ref s.heap.objs.size ∧ s₁ = { s with heap := s.heap.push { cls := .type "list", data := .seq #[] } }) F.called_list (F.typeCall_list_1 _) F.entry_list_init
    (code_list_new _ ⟨rfl, rfl⟩) fun obj s₁ h₁ => ?_
  obtain ⟨rfl, rfl⟩ := h₁
  obtain ⟨oi, hoi, _⟩ := id hit
  obtain ⟨ol, hol, _⟩ := id hl
  have hS : (s.heap.push { cls := .type "list", data := .seq #[] }).get? s.heap.objs.size = some { cls := .type "list", data := .seq #[] } := Heap.get?_push_size _ rfl
  refine ⟨⟨_, hS, rfl⟩, F.args_list_init_2 _ _, list_init_rev (A := A.in1) hh (hit.at fun o e => Heap.get?_push_of_some _ e) (hl.push _) hne hn _ (Nat.ne_of_gt (Heap.lt_size hoi)) (Nat.ne_of_gt (Heap.lt_size hol)) hS fun h' tk acc' c' hk hS' hacc => ?_⟩
  exact ⟨rfl, hQ h' tk acc' c' (fun b o hb e => hk b o (Nat.ne_of_lt (Heap.lt_size e)) hb (Heap.get?_push_of_some _ e)) hS' hacc⟩
end
end FL
namespace FL
open PySem PySem.Spec PyProof.Rows L2
open RT (vals_rev)
/-- list(reversed(x)), x a list: a new list -/
def rLR (K : PySem.W.Frag) (v : V) (H1 : Hp) (Q : VK) : Prop := ∃ (a : Addr) (xs : List V), v = .ref a ∧ SqL K H1 a xs ∧ ∀ q, H1 q = none → Q (.ref q) (upd H1 q (.lst xs.reverse))
section
variable {X : Cx}
theorem pe_lstRev {e : Expr} {te : TE} {p p2 pos pos2 : Pos} (hc : X.calm = true) (hg : Gl X "list") (hm : X.mg "list" = none) (hg2 : Gl X "reversed") (hm2 : X.mg "reversed" = none) (he : PE X e te)
    (hs : starEach [e] X.env = (false, eval e X.env) :: starEach [] X.env := by rfl)
    (hs2 : starEach [.Call (.Name "reversed" p2) [e] [] pos2] X.env = (false, eval (.Call (.Name "reversed" p2) [e] [] pos2) X.env) :: starEach [] X.env := by rfl) :
    PE X (.Call (.Name "list" p) [.Call (.Name "reversed" p2) [e] [] pos2] [] pos) (fun σ H Q => te σ H fun x H1 => rLR X.K x H1 Q) := by
  refine ⟨fun pins s σ H Q I h => ?_⟩
  refine Call_ (ld_blt I hg hm boot_list (PyProof.Rows.callWith_type1 (args_cons (Call_ (ld_blt I hg2 hm2 PyProof.Rows.boot_reversed (PyProof.Rows.callWith_type1 (args_cons (thn (he.run pins s σ H _ I h) fun u s1 ⟨v, H1, I1, r1, q1⟩ => args_nil ?_) hs) hs rfl))) hs2) hs2 rfl))
  obtain ⟨a, xs, ev, hq, q⟩ := q1
  subst ev
  obtain rfl : u = Value.ref a := r1
  obtain ⟨its, rv, p', hz⟩ := I1.list hq
  refine call_reversed_list p'.isList (args_nil ?_)
  have k0 : ∀ b o, s1.heap.get? b = some o → (s1.heap.push (revObj a ((its.toArray.size : Int) - 1))).get? b = some o := fun b o e => Heap.get?_push_of_some _ e
  have hl := p'.isList
  obtain ⟨ol, hol, _⟩ := id hl
  have hne : a ≠ s1.heap.objs.size := Nat.ne_of_lt (Heap.lt_size hol)
  have hn : its.toArray.size ≤ sizeLine := by rw [List.size_toArray, ← rv.length]; exact hz
  have hsz : (s1.heap.push (revObj a ((its.toArray.size : Int) - 1))).objs.size = s1.heap.objs.size + 1 := by simp [Heap.push]
  refine call_list_rev (s := { s1 with heap := s1.heap.push (revObj a ((its.toArray.size : Int) - 1)) }) (I1.ok.hd hc) ⟨_, Heap.get?_push_size _ rfl, rfl, rfl⟩ (hl.push _) hne hn fun h' tk acc c' hk e' hi => ?_
  refine ⟨.ref (s1.heap.push (revObj a ((its.toArray.size : Int) - 1))).objs.size, upd H1 (s1.heap.push (revObj a ((its.toArray.size : Int) - 1))).objs.size (.lst xs.reverse), I1.laid (t' := tk) (fun b o e => hk b o (Nat.ne_of_lt (Heap.lt_size e)) (k0 b o e)) (by rw [hsz]; omega) (show ObjOk X.prog X.w _ _ _ (.lst xs.reverse) from ⟨by rw [List.length_reverse]; exact hz, acc.toList, c', vals_rev rv hi, ?_⟩), rfl, q _ (I1.hok.fresh (by rw [hsz]; omega))⟩
  rw [Array.toArray_toList]; exact e'
end
def revD : D → Option Sl
  | .list ds => some (.ol ds.reverse)
  | _ => none
theorem su_rev {K : PySem.W.Frag} : SemU K (rLR K) revD := by
  intro G H x dx s Q sm h e q
  cases dx <;> first | (cases e; done) | skip
  cases e
  obtain ⟨p, vs, rfl, hp, hv⟩ := h.list sm
  exact ⟨p, vs, rfl, .of hp, fun l hl => q _ _ (.newL hl (DtAll.reverse hv))⟩
theorem se_lrev {X : Cx} {e : Expr} {fa : EvF} {p p2 pos pos2 : Pos} (hc : X.calm = true) (hg : Gl X "list") (hm : X.mg "list" = none) (hg2 : Gl X "reversed") (hm2 : X.mg "reversed" = none) (he : SE X e fa)
    (hs : starEach [e] X.env = (false, eval e X.env) :: starEach [] X.env := by rfl)
    (hs2 : starEach [.Call (.Name "reversed" p2) [e] [] pos2] X.env = (false, eval (.Call (.Name "reversed" p2) [e] [] pos2) X.env) :: starEach [] X.env := by rfl) :
    SE X (.Call (.Name "list" p) [.Call (.Name "reversed" p2) [e] [] pos2] [] pos) (fOp1 revD fa) := by
  obtain ⟨t, p', s⟩ := he.ex
  exact ⟨_, pe_lstRev hc hg hm hg2 hm2 p' hs hs2, sem_un su_rev s⟩
@[simp] theorem revD_list (ds : List D) : revD (.list ds) = some (.ol ds.reverse) := eqq rfl

/-! ### range(i, j, -1) -/
def dnD (lo : Int) (n : Nat) : List D := (List.range n).map fun (i : Nat) => PyData.int (lo - i)
theorem itok_dn {K : PySem.W.Frag} {mg : Str → Option Value} {lo : Int} {n : Nat} : ItOk K mg (Itc lo (-1) n) [] (dnD lo n) := by
  intro i G H os L rp _
  have hl : (dnD lo n).length = n := by simp [dnD]
  refine ⟨fun d hd => ?_, fun hi => by rw [hl] at hi; show n ≤ i; omega⟩
  have hi : i < n := by
    have := (List.getElem?_eq_some_iff.mp hd).1
    rw [hl] at this; exact this
  refine ⟨hi, fun y H' hy => ?_⟩
  obtain ⟨rfl, rfl⟩ := hy
  have : d = .int (lo + (i : Int) * (-1)) := by
    unfold dnD at hd
    rw [List.getElem?_map, List.getElem?_range hi] at hd
    cases hd
    show PyData.int (lo - (i : Int)) = _
    rw [Int.mul_neg, Int.mul_one, Int.sub_eq_add_neg]
  subst this
  exact ⟨G, .refl, .int _⟩
def fRng3 (fs : EvA) : EvI := fun env => do
  let (rs, e1) ← fs env
  match rs with
  | [.sh (.int i), .sh (.int j), .sh (.int c)] => if c = -1 ∧ -(2 ^ 62) ≤ i ∧ i < 2 ^ 62 ∧ -(2 ^ 62) ≤ j ∧ j < 2 ^ 62 then .ok ([], dnD i (i - j).toNat, e1) else .bad
  | _ => .bad
theorem si_rng3 {X : Cx} {tg a b c : Expr} {fs : EvA} {p pos : Pos} (hg : Gl X "range") (hm : X.mg "range" = none) (ha : SA X [a, b, c] fs) (hs : starEach [a, b, c] X.env = (false, eval a X.env) :: starEach [b, c] X.env := by rfl) (hpl : (backTo pos (starEach [b, c] X.env)).any (·.1) = false := by rfl) :
    SI X tg (.Call (.Name "range" p) [a, b, c] [] pos) (fRng3 fs) := by
  obtain ⟨t, p', s⟩ := ha.ex
  refine ⟨_, pi_range3 hg hm p' hs hpl, ?_⟩
  intro σ H env l ks ds env' h e R q
  unfold fRng3 at e
  obtain ⟨⟨rs, e1⟩, ea, e⟩ := Res.bind_ok e
  refine s σ H env l rs e1 h ea _ fun vs H1 h1 => ?_
  dsimp only at e
  split at e
  · rename_i i j c
    split at e
    · rename_i hj
      obtain ⟨rfl, hj1, hj2, hj3, hj4⟩ := hj
      cases e
      have : vs = [V.int i, V.int j, V.int (-1)] := HoldA.int1 (ns := [i, j, -1]) h1
      subst this
      exact ⟨i, j, -1, _, rfl, RgC.neg hj1 hj2 hj3 hj4, q _ [] H1 h1.none itok_dn⟩
    · cases e
  · cases e
def rng3C (p : List Sl × Lo) : Res (List Sl × List D × Lo) :=
  match p.1 with
  | [.sh (.int i), .sh (.int j), .sh (.int c)] => if c = -1 ∧ -(2 ^ 62) ≤ i ∧ i < 2 ^ 62 ∧ -(2 ^ 62) ≤ j ∧ j < 2 ^ 62 then .ok ([], dnD i (i - j).toNat, p.2) else .bad
  | _ => .bad
@[simp] theorem rng3C_ev (i j c : Int) (e : Lo) : rng3C ([.sh (.int i), .sh (.int j), .sh (.int c)], e) = if c = -1 ∧ -(2 ^ 62) ≤ i ∧ i < 2 ^ 62 ∧ -(2 ^ 62) ≤ j ∧ j < 2 ^ 62 then .ok ([], dnD i (i - j).toNat, e) else .bad := eqq rfl
@[simp] theorem ev_rng3 (fs : EvA) (env : Lo) : fRng3 fs env = (fs env).bind rng3C := eqq rfl
theorem dn_len (i : Int) (n : Nat) : (dnD i n).length = n := by simp [dnD]
theorem dn_get {lo : Int} {n i : Nat} {d : D} (h : (dnD lo n)[i]? = some d) : i < n ∧ d = .int (lo - (i : Int)) := by
  have hi : i < n := by
    have := (List.getElem?_eq_some_iff.mp h).1
    rwa [dn_len] at this
  have h2 : (dnD lo n)[i]? = some (.int (lo - (i : Int))) := by simp [dnD, hi]
  rw [h2] at h
  injection h with h
  exact ⟨hi, h.symm⟩

/-! ### xs[k] = v of a list of one's own -/
def fStore (i : Nat) (fa fk : EvF) : EvS := fun env => do
  let (r, e1) ← fa env
  let (d, e2) ← Res.ofO (freezeR e1 r)
  match e2[i]? with
  | some (.ol _) => do
    let (rk, e3) ← fk e2
    match rk, e3[i]? with
    | .sh (.int k), some (.ol ds) => do
      let j ← Res.ofO (ixN ds.length k)
      .ok (.nx (e3.set i (.ol (ds.set j d))))
    | _, _ => .bad
  | _ => .bad
theorem sem_store {K : PySem.W.Frag} {mg : Str → Option Value} {ks : List Nat} {i : Nat} {ta tk : TE} {fa fk : EvF} (ha : SemE K mg ta fa) (hk : SemE K mg tk fk) : SemS K mg ks (tAsg ta (gSub (tVar i) tk rSetL)) (fStore i fa fk) := by
  intro σ H env l o h e D post
  unfold fStore at e
  obtain ⟨⟨r, e1⟩, ea, e⟩ := Res.bind_ok e
  obtain ⟨⟨d, e2⟩, ef, e⟩ := Res.bind_ok e
  replace ef := Res.ofO_ok ef
  dsimp only at e
  split at e
  case h_2 => cases e
  rename_i ds0 e0
  obtain ⟨⟨rk, e3⟩, ek, e⟩ := Res.bind_ok e
  dsimp only at e
  split at e
  case h_2 => cases e
  rename_i k ds e4
  obtain ⟨j, ej, e⟩ := Res.bind_ok e
  replace ej := Res.ofO_ok ej
  cases e
  refine ha σ H env l r e1 h ea _ fun v H1 h1 => ?_
  have h2 := h1.freeze ef
  obtain ⟨ov, eσ, rp0⟩ := h2.hold.take e0
  obtain ⟨G0, os0, rp0⟩ := rp0
  obtain ⟨o0, ri0⟩ := rp0.rl.mem List.mem_cons_self
  obtain ⟨p, ws0, rfl, _, hp0, ha0⟩ := ri0.ol_inv
  refine ⟨.ref p, eσ, ?_⟩
  refine hk σ H1 e2 _ _ e3 h2.hold ek _ fun y H2 h3 => ?_
  obtain ⟨ov', eσ', rp⟩ := h3.hold.take e4
  rw [eσ] at eσ'; cases eσ'
  obtain ⟨G, os, rp⟩ := rp
  obtain ⟨o1, ri⟩ := rp.rl.mem List.mem_cons_self
  obtain ⟨p', ws, ep, _, hp, hw⟩ := ri.ol_inv
  cases ep
  obtain ⟨v2, q2, dv⟩ := rp.shOf (ov := some v) (d := d) (List.mem_cons_of_mem _ (List.mem_append_right _ (List.mem_cons_of_mem _ List.mem_cons_self)))
  cases q2
  obtain ⟨y2, q3, dy⟩ := rp.shOf (ov := some y) (d := .int k) (List.mem_cons_of_mem _ (List.mem_append_right _ List.mem_cons_self))
  cases q3
  cases dy
  refine ⟨p, ws, k, j, rfl, rfl, hp, by rw [DtAll.length hw]; exact ej, ?_⟩
  refine post σ _ ⟨by rw [List.length_set]; exact h3.len, ?_⟩ .refl
  have rp2 := rp.mut (s' := .ol (ds.set j d)) (o := .lst (ws.set j v)) ol_own fun H' e => .bx (.ol e (DtAll.set dv j hw))
  have rp4 := Rep.put ⟨_, _, rp2⟩ (by rw [List.length_set]; exact h3.len) eσ
  rw [List.set_set] at rp4
  exact Rep.dropM (M := [_, _]) rp4
theorem ss_store {X : Cx} {ks : List Nat} {i : Nat} {x : Str} {e k : Expr} {fa fk : EvF} {npos spos pos : Pos} (hN : X.N[i]? = some x) (hv : Vis X.env.scope x) (he : SE X e fa) (hk : SE X k fk)
    (hd : (x == ("__debug__" : Str)) = false := by decide) (hcd : (x == ("__classdict__" : Str)) = false := by decide)
    (hs : swapsWithSole [.Subscript (.Name x npos) k spos] e pos.line X.env = pure false := by rfl) (hw : swappedStores [.Subscript (.Name x npos) k spos] e X.env = pure none := by rfl)
    (h1 : (assignEach [.Subscript (.Name x npos) k spos] X.env).map (·.2) = [assign (.Subscript (.Name x npos) k spos) X.env] := by rfl)
    (hag : ∀ v, assign (.Subscript (.Name x npos) k spos) X.env v = (do
      let ov ← holding [v] (eval (.Name x npos) X.env)
      let iv ← holding [v, ov] (eval k X.env)
      standAt spos
      holding [v, ov, iv] (setItem ov iv v)
      release [v, ov, iv] []) := by intro _; rfl) :
    SS X ks (.Assign [.Subscript (.Name x npos) k spos] e pos) (fStore i fa fk) := by
  obtain ⟨t, p, s⟩ := he.ex
  obtain ⟨t2, p2, s2⟩ := hk.ex
  exact ⟨_, ps_asg p (pg_sub (pe_var hN hv hd hcd) p2 set_list hag) hs hw h1, sem_store s s2⟩
/-! ### how these are reckoned -/
def storV (i : Nat) (d : D) (e : Lo) : Sl → Option Sl → Res Out
  | .sh (.int k), some (.ol ds) => match ixN ds.length k with
    | some j => .ok (.nx (e.set i (.ol (ds.set j d))))
    | none => .bad
  | _, _ => .bad
theorem storV_at {i : Nat} {d : D} {e : Lo} {k : Int} {ds : List D} {j : Nat} (h : ixN ds.length k = some j) : storV i d e (.sh (.int k)) (some (.ol ds)) = .ok (.nx (e.set i (.ol (ds.set j d)))) := by
  show (match ixN ds.length k with | some j => Res.ok (Out.nx (e.set i (.ol (ds.set j d)))) | none => .bad) = _
  rw [h]
theorem ixN_nat {n k : Nat} (h : k < n) : ixN n (k : Int) = some k := by
  unfold ixN
  rw [if_pos (by omega), if_pos (by omega)]
  simp
def storC2 (i : Nat) (d : D) (p : Sl × Lo) : Res Out := storV i d p.2 p.1 p.2[i]?
@[simp] theorem storC2_ev (i : Nat) (d : D) (r : Sl) (e : Lo) : storC2 i d (r, e) = storV i d e r e[i]? := eqq rfl
def storS (i : Nat) (fk : EvF) (d : D) (e : Lo) : Option Sl → Res Out
  | some (.ol _) => (fk e).bind (storC2 i d)
  | _ => .bad
@[simp] theorem storS_ol (i : Nat) (fk : EvF) (d : D) (e : Lo) (ds : List D) : storS i fk d e (some (.ol ds)) = (fk e).bind (storC2 i d) := eqq rfl
def storF (i : Nat) (fk : EvF) : Option (D × Lo) → Res Out
  | some (d, e) => storS i fk d e e[i]?
  | none => .bad
@[simp] theorem storF_some (i : Nat) (fk : EvF) (d : D) (e : Lo) : storF i fk (some (d, e)) = storS i fk d e e[i]? := eqq rfl
def storC1 (i : Nat) (fk : EvF) (p : Sl × Lo) : Res Out := storF i fk (freezeR p.2 p.1)
@[simp] theorem storC1_ev (i : Nat) (fk : EvF) (r : Sl) (e : Lo) : storC1 i fk (r, e) = storF i fk (freezeR e r) := eqq rfl
@[simp] theorem ev_store (i : Nat) (fa fk : EvF) (env : Lo) : fStore i fa fk env = (fa env).bind (storC1 i fk) := by
  show (fa env).bind _ = (fa env).bind _
  congr 1
  funext ⟨r, e1⟩
  show (Res.ofO (freezeR e1 r)).bind _ = storF i fk (freezeR e1 r)
  cases freezeR e1 r with
  | none => rfl
  | some p =>
    obtain ⟨d, e2⟩ := p
    have key2 : ∀ (rk : Sl) (e3 : Lo) (o : Option Sl), (match rk, o with | .sh (.int k), some (.ol ds) => (do let j ← Res.ofO (ixN ds.length k); Res.ok (Out.nx (e3.set i (.ol (ds.set j d))))) | _, _ => Res.bad) = storV i d e3 rk o := by
      intro rk e3 o
      unfold storV
      split
      · rename_i k ds
        cases ixN ds.length k <;> rfl
      · first
        | rfl
        | (split
           · rename_i h _ _; exact absurd rfl (h _ _ rfl)
           · rfl)
    have key : ∀ o : Option Sl, o = e2[i]? → (match o with | some (.ol _) => (do let (rk, e3) ← fk e2; match rk, e3[i]? with | .sh (.int k), some (.ol ds) => (do let j ← Res.ofO (ixN ds.length k); Res.ok (Out.nx (e3.set i (.ol (ds.set j d))))) | _, _ => Res.bad) | _ => Res.bad) = storS i fk d e2 o := by
      intro o ho
      cases o with
      | none => rfl
      | some s =>
        cases s <;> first | rfl | skip
        show (fk e2).bind _ = (fk e2).bind _
        congr 1
        funext ⟨rk, e3⟩
        exact key2 rk e3 _
    exact key _ rfl
end FL

/-! FN: walks over a slot's own list that stays its own -/
namespace FL
open PySem PySem.Spec PyProof.Rows L2
def SemIP (K : PySem.W.Frag) (mg : Str → Option Value) (w : TI) (f : EvI) (P : L2.St → List V → Prop) : Prop :=
  ∀ (σ : L2.St) (H : Hp) (env : Lo) (l : List Item) (ks : List Sl) (ds : List D) (env' : Lo), Hold K mg H σ env l → f env = .ok (ks, ds, env') → ∀ R : It → Hp → Prop,
    (∀ J vs H', HoldA K mg H' σ env' l vs ks → ItOk K mg J ((vs.map some).zip ks) ds → P σ vs → R J H') → w σ H R
theorem sem_lcK {K : PySem.W.Frag} {P : L2.St → List V → Prop} {mg : Str → Option Value} {w : TI} {fi : EvI} {g : TG} {tg : Tgt} {tt : TT} {ft : EvT} {fe : EvF} {own : List Nat} (si : SemIP K mg w fi P) (sg : SemG K mg g tg) (st : SemT K mg tt ft) (ho : ∀ k ∈ tg.slots, k ∈ own) :
    ∀ (σ : L2.St) (H : Hp) (env : Lo) (l : List Item) (r : Sl) (env' : Lo), Hold K mg H σ env l → fLc fi tg ft fe own env = .ok (r, env') → ∀ Q : VK,
      (∀ v H' vs ks ds e1, fi env = .ok (ks, ds, e1) → P σ vs → HoldV K mg H' σ env' ((vs.map some).zip ks ++ l) v r → Q v H') → tLc w g tt (tCan K mg fe) own σ H Q := by
  intro σ H env l r env' h e Q q
  unfold fLc at e
  obtain ⟨⟨ks, ds, e1⟩, ea, e⟩ := Res.bind_ok e
  dsimp only at e
  split at e
  · rename_i hown
    obtain ⟨⟨accF, e2⟩, eb, e⟩ := Res.bind_ok e
    cases e
    refine si σ H env l ks ds e1 h ea _ fun J vs H1 h1 ok hP => fun Dd hD => ?_
    -- the new list
    obtain ⟨G1, os1, rp1⟩ := h1.rep
    have h2 : Hold K mg (upd H1 Dd (.lst [])) σ e1 ((some (.ref Dd), .ol []) :: ((vs.map some).zip ks ++ l)) := ⟨h1.len, by
      have := Rp.newOl (K := K) (mg := mg) rp1 hD (.nil)
      refine Rep.perm ⟨_, _, this⟩ ?_
      refine List.Perm.trans (List.Perm.cons _ ?_) perm_mid
      rw [← List.append_assoc, ← List.append_assoc]
      exact List.perm_append_comm.append_right l⟩
    obtain ⟨sv, h3, back⟩ := h2.aside own hown
    refine ⟨fun i m H' => m + i = ds.length ∧ ∃ env3 acc, Hold K mg H' (L2.wipe σ own) env3 (sv ++ ((some (.ref Dd), .ol acc) :: ((vs.map some).zip ks ++ l))) ∧ compF tg ft fe own (ds.drop i) acc env3 = .ok (accF, e2), ⟨ds.length, rfl, _, [], h3, eb⟩, ?_⟩
    rintro i m H4 ⟨hm, env4, acc, h4, e4⟩
    obtain ⟨G4, os4, rp4⟩ := h4.rep
    obtain ⟨okg, oks⟩ := ok i G4 H4 os4 _ rp4 fun it hi => List.mem_append_right _ (List.mem_append_right _ (List.mem_cons_of_mem _ (List.mem_append_left _ hi)))
    by_cases hi : i < ds.length
    · have hd : ds[i]? = some ds[i] := List.getElem?_eq_getElem hi
      obtain ⟨go, yl⟩ := okg _ hd
      rw [List.drop_eq_getElem_cons hi] at e4
      unfold compF at e4
      obtain ⟨e5, ec, e4⟩ := Res.bind_ok e4
      replace ec := Res.ofO_ok ec
      obtain ⟨⟨b, e6⟩, et, e4⟩ := Res.bind_ok e4
      refine .inr ⟨go, fun H' => ∃ env3 acc, Hold K mg H' (L2.wipe σ own) env3 (sv ++ ((some (.ref Dd), .ol acc) :: ((vs.map some).zip ks ++ l))) ∧ compF tg ft fe own (ds.drop (i + 1)) acc env3 = .ok (accF, e2), fun H' q => ⟨m - 1, by omega, by omega, q⟩, fun x H5 hy => ?_⟩
      obtain ⟨G', gr, dd⟩ := yl x H5 hy
      have h5 : Hold K mg H5 (L2.wipe σ own) env4 ((some x, .sh ds[i]) :: (sv ++ ((some (.ref Dd), .ol acc) :: ((vs.map some).zip ks ++ l)))) := ⟨h4.len, Rep.perm ⟨_, _, (rp4.grow gr).sh dd⟩ perm_mid⟩
      refine sg _ H5 env4 e5 _ x _ h5 ec _ fun σ2 h6 off => ?_
      have hw : L2.wipe σ2 own = L2.wipe σ own := wipe_off off ho
      refine ⟨hw, ?_⟩
      refine st σ2 H5 e5 _ b e6 h6 et _ fun H6 h7 => ?_
      dsimp only at e4
      cases b with
      | false =>
        rw [if_neg Bool.false_ne_true] at e4
        refine iteF ⟨_, acc, ?_, e4⟩
        have := h7.wipe own
        rw [hw] at this
        exact this
      | true =>
        rw [if_pos rfl] at e4
        obtain ⟨⟨r, e7⟩, ef, e4⟩ := Res.bind_ok e4
        obtain ⟨⟨d', e8⟩, eg, e4⟩ := Res.bind_ok e4
        replace eg := Res.ofO_ok eg
        dsimp only at e4
        split at e4
        · rename_i hz
          refine iteT ⟨e6, _, r, e7, h7, ef, fun y H7 h8 => ?_⟩
          have h9 := h8.freeze eg
          -- the list at Dd
          have p1 : ((some y, Sl.sh d') :: (σ2.zip e8 ++ (sv ++ ((some (V.ref Dd), Sl.ol acc) :: ((vs.map some).zip ks ++ l))))).Perm ((some (V.ref Dd), Sl.ol acc) :: ((some y, Sl.sh d') :: (σ2.zip e8 ++ (sv ++ ((vs.map some).zip ks ++ l))))) := by
            refine List.Perm.trans (List.Perm.cons _ ?_) (.swap _ _ _)
            rw [← List.append_assoc, ← List.append_assoc]
            exact perm_mid.symm
          obtain ⟨G8, os8, rp8⟩ := h9.rep
          obtain ⟨os9, rp9⟩ := rp8.perm p1
          obtain ⟨o, ri⟩ := rp9.rl.mem List.mem_cons_self
          obtain ⟨p, ws, ev, _, hp, ha⟩ := ri.ol_inv
          cases ev
          obtain ⟨v', ev, dy⟩ := rp9.shOf (List.mem_cons_of_mem _ List.mem_cons_self)
          cases ev
          refine ⟨ws, hp, sizeL' (by rw [ha.length]; exact hz), wipeE e8 own, acc ++ [d'], ?_, e4⟩
          have rp10 := rp9.mut (s' := .ol (acc ++ [d'])) (o := .lst (ws ++ [y])) ol_own fun H' e => .bx (.ol e (ha.append (.one dy)))
          have h10 : Hold K mg (upd H7 Dd (.lst (ws ++ [y]))) σ2 e8 (sv ++ ((some (V.ref Dd), Sl.ol (acc ++ [d'])) :: ((vs.map some).zip ks ++ l))) := ⟨h9.len, by
            refine (Rep.tail (Rep.perm ⟨_, _, rp10⟩ (.swap _ _ _))).perm ?_
            exact perm_mid.trans (List.Perm.append_left _ perm_mid)⟩
          have := h10.wipe own
          rw [hw] at this
          exact this
        · cases e4
    · rw [List.drop_eq_nil_of_le (by omega)] at e4
      cases e4
      refine .inl ⟨oks (by omega), q _ H4 vs ks ds e1 ea hP ?_⟩
      have hb := back H4 _ _ h4
      refine ⟨hb.len, ?_, fun _ z => by cases z⟩
      have : Rep K mg H4 ((some (V.ref Dd), Sl.ol accF) :: (σ.zip (restoreE e1 own e2) ++ ((vs.map some).zip ks ++ l))) := hb.rep.perm perm_mid.symm
      exact this
  · cases e

def fTakeI (i : Nat) : EvI := fun env => match env[i]? with
  | some (.ol ds) => .ok ([.ol ds], ds, env.set i .no)
  | _ => .bad
theorem semip_take {K : PySem.W.Frag} {mg : Str → Option Value} {i : Nat} : SemIP K mg (iSeq K (tVar i)) (fTakeI i) (fun σ vs => ∃ v, vs = [v] ∧ σ[i]? = some (some v)) := by
  intro σ H env l ks ds env' h e R q
  unfold fTakeI at e
  split at e
  case h_2 => cases e
  rename_i ds' e0
  cases e
  obtain ⟨ov, eσ, rp0⟩ := h.take e0
  obtain ⟨G0, os0, rp⟩ := id rp0
  obtain ⟨o0, ri0⟩ := rp.rl.mem List.mem_cons_self
  obtain ⟨p, ws, rfl, _, hp, ha⟩ := ri0.ol_inv
  refine ⟨.ref p, eσ, .inl ⟨p, rfl, ⟨ws, .of hp⟩, q _ [.ref p] H ⟨by rw [List.length_set]; exact h.len, rp0, rfl, fun k v r e1 e2 => ?_⟩ (itok_list rfl (.inr rfl)) ⟨_, rfl, eσ⟩⟩⟩
  cases k with
  | zero => simp at e1 e2; subst e2; exact fun _ z => by cases z
  | succ k => simp at e1
def fLcB (i : Nat) (tg : Tgt) (ft : EvT) (fe : EvF) (own : List Nat) : EvF := fun env => match env[i]? with
  | some (.ol ds) => do
    let (r, e) ← fLc (fTakeI i) tg ft fe own env
    .ok (r, e.set i (.ol ds))
  | _ => fLc (fIter (fVar i)) tg ft fe own env
theorem fLc_ol {fi : EvI} {tg : Tgt} {ft : EvT} {fe : EvF} {own : List Nat} {env env' : Lo} {r : Sl} (h : fLc fi tg ft fe own env = .ok (r, env')) : ∃ ds, r = .ol ds := by
  unfold fLc at h
  obtain ⟨⟨ks, ds, e1⟩, ea, h⟩ := Res.bind_ok h
  dsimp only at h
  split at h
  · obtain ⟨⟨acc, e2⟩, eb, h⟩ := Res.bind_ok h
    cases h
    exact ⟨_, rfl⟩
  · cases h
theorem sem_iseq {K : PySem.W.Frag} {mg : Str → Option Value} {te : TE} {fa : EvF} (s : SemE K mg te fa) : SemI K mg (iSeq K te) (fIter fa) := by
  intro σ H env l ks ds env' h e R q
  unfold fIter at e
  obtain ⟨⟨r, e1⟩, ea, e⟩ := Res.bind_ok e
  obtain ⟨⟨d, e2⟩, eb, e⟩ := Res.bind_ok e
  replace eb := Res.ofO_ok eb
  refine s σ H env l r e1 h ea _ fun v H1 h1 => ?_
  have h2 := h1.freeze eb
  obtain ⟨G, os, rp⟩ := h2.rep
  obtain ⟨v', ev, dd⟩ := rp.shOf List.mem_cons_self
  cases ev
  cases dd <;> first | (cases e; done) | skip
  case lst a xs ds' hs ha =>
    cases e
    exact .inl ⟨a, rfl, ⟨xs, .of (rp.same _ _ hs)⟩, q _ [_] H1 h2.toA (itok_list rfl (.inl rfl))⟩
  case tup a xs ds' hs ha =>
    cases e
    exact .inr ⟨a, rfl, ⟨xs, sameTup rp.same hs⟩, q _ [_] H1 h2.toA (itok_tup rfl)⟩
theorem sem_lcB {K : PySem.W.Frag} {mg : Str → Option Value} {i : Nat} {g : TG} {tg : Tgt} {tt : TT} {ft : EvT} {fe : EvF} {own : List Nat} (sg : SemG K mg g tg) (st : SemT K mg tt ft) (ho : ∀ k ∈ tg.slots, k ∈ own) :
    SemE K mg (tLc (iSeq K (tVar i)) g tt (tCan K mg fe) own) (fLcB i tg ft fe own) := by
  intro σ H env l r env' h e Q q
  unfold fLcB at e
  split at e
  · rename_i ds e0
    obtain ⟨⟨r1, e1⟩, ea, e⟩ := Res.bind_ok e
    cases e
    refine sem_lcK semip_take sg st ho σ H env l r e1 h ea Q fun v H' vs ks ds' e2 et hP hv => ?_
    obtain ⟨v0, rfl, eσ⟩ := hP
    unfold fTakeI at et
    rw [e0] at et
    cases et
    obtain ⟨dd, rfl⟩ := fLc_ol ea
    refine q v H' ⟨by rw [List.length_set]; exact hv.len, ?_, fun _ z => by cases z⟩
    have h1 : Rep K mg H' ((some v0, Sl.ol ds) :: (σ.zip e1 ++ ((some v, Sl.ol dd) :: l))) := by
      refine hv.rep.perm ?_
      refine List.Perm.trans (List.Perm.cons _ (perm_mid (A := σ.zip e1) (a := (some v0, Sl.ol ds)) (B := l)).symm) ?_
      exact (List.Perm.swap _ _ _).trans (List.Perm.cons _ perm_mid)
    have h2 := Rep.put h1 hv.len eσ
    exact h2.perm perm_mid.symm
  · exact sem_lc (sem_iseq sem_var) sg st ho σ H env l r env' h e Q q
/-- a loop over a slot's own list -/
def putB (i : Nat) (ds : List D) : Out → Out
  | .nx e => .nx (e.set i (.ol ds))
  | .bk e => .bk (e.set i (.ol ds))
  | .ct e => .ct (e.set i (.ol ds))
  | .rt r e => .rt r (e.set i (.ol ds))
def fForB (i : Nat) (tg : Tgt) (b : EvS) : EvS := fun env => match env[i]? with
  | some (.ol ds) => do
    let o ← loopF tg b ds (env.set i .no)
    .ok (putB i ds o)
  | _ => fFor (fIter (fVar i)) tg b env
theorem PostS.weak {K : PySem.W.Frag} {mg : Str → Option Value} {D : Ends} {i : Nat} {ks : List Nat} {σ : L2.St} {l : List Item} {o : Out} (p : PostS K mg D ks σ l o) : PostS K mg D (i :: ks) σ l o := by
  have w : ∀ {σ' : L2.St}, KeepEq (i :: ks) σ σ' → KeepEq ks σ σ' := fun h k hk => h k (List.mem_cons_of_mem _ hk)
  cases o with
  | nx e => exact fun σ' H' h q => p σ' H' h (w q)
  | bk e => exact fun σ' H' h q => p σ' H' h (w q)
  | ct e => exact fun σ' H' h q => p σ' H' h (w q)
  | rt r e => exact fun v σ' H' h n q => p v σ' H' h n (w q)
section
variable {X : Cx} {ks : List Nat} {tg : Expr} {body : List Stmt} {b : EvS} {pos npos : Pos} {g : TG} {tt : Tgt} {i : Nat} {x : Str}
theorem ss_forB (hp : PassesOwn (model X.prog X.w) X.A X.env X.xe) (hc : X.calm = true) (hN : X.N[i]? = some x) (hv : Vis X.env.scope x) (hg : PG X tg g) (sg : SemG X.K X.mg g tt) (hb : SSs X (i :: ks) body b) (hk : ∀ k ∈ i :: ks, k ∉ tt.slots := by decide)
    (hd : (x == ("__debug__" : Str)) = false := by decide) (hcd : (x == ("__classdict__" : Str)) = false := by decide)
    (hs : ∀ y, foldedSetIterable (.Name x npos) X.env y = pure y := by intro _; rfl) : SS X ks (.For tg (.Name x npos) body [] pos) (fForB i tt b) := by
  obtain ⟨t, p, s⟩ := hb.ex
  refine ⟨_, ps_for hp hc (pi_seq (pe_var hN hv hd hcd)) hg p hs, ?_⟩
  intro σ H env l o h e D post
  unfold fForB at e
  split at e
  · rename_i ds e0
    obtain ⟨o1, ea, e⟩ := Res.bind_ok e
    cases e
    refine semip_take σ H env l [.ol ds] ds (env.set i .no) h (by unfold fTakeI; rw [e0]) _ fun J vs H1 h1 ok hP => ?_
    obtain ⟨v0, rfl, eσ⟩ := hP
    refine sem_loop (l := l) sg s hk ok ⟨h1.len, ?_⟩ ea ?_
    · refine h1.rep.perm ?_
      rw [← List.append_assoc, ← List.append_assoc]
      exact List.perm_append_comm.append_right l
    · have key : ∀ {σ' : L2.St} {H' : Hp} {e' : Lo} {l' : List Item}, Hold X.K X.mg H' σ' e' ((some v0, Sl.ol ds) :: l') → KeepEq (i :: ks) σ σ' → Hold X.K X.mg H' σ' (e'.set i (.ol ds)) l' := by
        intro σ' H' e' l' hh kk
        have eσ' : σ'[i]? = some (some v0) := by rw [kk i List.mem_cons_self]; exact eσ
        exact ⟨by rw [List.length_set]; exact hh.len, Rep.put (hh.rep.perm perm_mid.symm) hh.len eσ'⟩
      have w : ∀ {σ' : L2.St}, KeepEq (i :: ks) σ σ' → KeepEq ks σ σ' := fun h k hk => h k (List.mem_cons_of_mem _ hk)
      cases o1 with
      | nx e1 => exact fun σ' H' h q => post σ' H' (key h q) (w q)
      | bk e1 => exact fun σ' H' h q => post σ' H' (key h q) (w q)
      | ct e1 => exact fun σ' H' h q => post σ' H' (key h q) (w q)
      | rt r e1 =>
        intro v σ' H' hv n q
        have h1 : Hold X.K X.mg H' σ' e1 ((some v0, Sl.ol ds) :: ((some v, r) :: l)) := ⟨hv.len, by
          refine hv.rep.perm ?_
          refine perm_mid.trans (List.Perm.append_left _ ?_)
          exact .swap _ _ _⟩
        have h2 := key h1 q
        exact post v σ' H' ⟨h2.len, h2.rep.perm perm_mid.symm, fun j z => by subst z; cases n⟩ n (w q)
  · unfold fFor at e
    obtain ⟨⟨ksl, ds, e1⟩, ea, e⟩ := Res.bind_ok e
    refine sem_iseq sem_var σ H env l ksl ds e1 h ea _ fun J vs H1 h1 ok => ?_
    refine sem_loop sg s hk ok ⟨h1.len, ?_⟩ e post.weak.more
    refine h1.rep.perm ?_
    rw [← List.append_assoc, ← List.append_assoc]
    exact List.perm_append_comm.append_right l
end
section
variable {X : Cx} {elt tg : Expr} {ifs : List Expr} {scope : Scope} {own : List (Str × Nat)} {pos spos py npos : Pos} {g : TG} {tt : Tgt} {ft : EvT} {fe : EvF} {i j : Nat} {x y : Str} {ks : List Nat}
theorem se_lcB (hc : X.calm = true) (hN : X.N.Nodup) (hi : X.N[j]? = some x) (hv : Vis X.env.scope x) (ok : BlkOk X.N X.env.scope scope own) (sg : SemG X.K X.mg g tt) (ho : ∀ k ∈ tt.slots, k ∈ own.map (·.2))
    (hg : ∀ (s : Shared) (H : Hp) (C : Addr) (cl : List (Str × Addr)) (fp : List Addr), PG (X.blk s H scope (compEnvC scope cl C X.env) fp) tg g) (ht : ∀ (s : Shared) (H : Hp) (C : Addr) (cl : List (Str × Addr)) (fp : List Addr), STs (X.blk s H scope (compEnvC scope cl C X.env) fp) ifs ft)
    (he : ∀ (s : Shared) (H : Hp) (C : Addr) (cl : List (Str × Addr)) (fp : List Addr), SE (X.blk s H scope (compEnvC scope cl C X.env) fp) elt fe) (hd : (x == ("__debug__" : Str)) = false := by decide) (hcd : (x == ("__classdict__" : Str)) = false := by decide)
    (hs : ∀ z, foldedSetIterable (.Name x npos) X.env z = pure z := by intro _; rfl) :
    SE X (.ListComp elt [⟨tg, .Name x npos, ifs, 0⟩] scope pos) (fLcB j tt ft fe (own.map (·.2))) :=
  ⟨_, pe_lc hc hN (pi_seq (pe_var hi hv hd hcd)) ok hg (fun s H C cl fp => (ht s H C cl fp).pts) (fun s H C cl fp => (he s H C cl fp).canon) hs, sem_lcB sg semt_can ho⟩
theorem ss_setLcB (hc : X.calm = true) (hN : X.N.Nodup) (hy : X.N[i]? = some y) (hyl : X.env.scope.names.lookup y = some .local)
    (hsw : swapsWith (.ListComp elt [⟨tg, .Name x npos, ifs, 0⟩] scope pos) (some (.Name y py)) spos.line X.env = pure true) (hi : X.N[j]? = some x) (hv : Vis X.env.scope x) (ok : BlkOk X.N X.env.scope scope own) (sg : SemG X.K X.mg g tt) (ho : ∀ k ∈ tt.slots, k ∈ own.map (·.2))
    (hg : ∀ (s : Shared) (H : Hp) (C : Addr) (cl : List (Str × Addr)) (fp : List Addr), PG (X.blk s H scope (compEnvC scope cl C X.env) fp) tg g) (ht : ∀ (s : Shared) (H : Hp) (C : Addr) (cl : List (Str × Addr)) (fp : List Addr), STs (X.blk s H scope (compEnvC scope cl C X.env) fp) ifs ft)
    (he : ∀ (s : Shared) (H : Hp) (C : Addr) (cl : List (Str × Addr)) (fp : List Addr), SE (X.blk s H scope (compEnvC scope cl C X.env) fp) elt fe) (hk : i ∉ ks := by decide) (hd : (x == ("__debug__" : Str)) = false := by decide) (hcd : (x == ("__classdict__" : Str)) = false := by decide)
    (hs : ∀ z, foldedSetIterable (.Name x npos) X.env z = pure z := by intro _; rfl) :
    SS X ks (.Assign [.Name y py] (.ListComp elt [⟨tg, .Name x npos, ifs, 0⟩] scope pos) spos) (fAsg i (fLcB j tt ft fe (own.map (·.2)))) :=
  ⟨_, ps_setLc hc hN hy hyl hsw (pi_seq (pe_var hi hv hd hcd)) ok hg (fun s H C cl fp => (ht s H C cl fp).pts) (fun s H C cl fp => (he s H C cl fp).canon) hs, sem_asg (sem_lcB sg semt_can ho) hk⟩
end
/-! ### how these are reckoned -/
def putC (i : Nat) (ds : List D) (o : Out) : Res Out := .ok (putB i ds o)
@[simp] theorem putC_ev (i : Nat) (ds : List D) (o : Out) : putC i ds o = .ok (putB i ds o) := eqq rfl
@[simp] theorem putB_nx (i : Nat) (ds : List D) (e : Lo) : putB i ds (.nx e) = .nx (e.set i (.ol ds)) := eqq rfl
@[simp] theorem putB_rt (i : Nat) (ds : List D) (r : Sl) (e : Lo) : putB i ds (.rt r e) = .rt r (e.set i (.ol ds)) := eqq rfl
def forBC (i : Nat) (tg : Tgt) (b : EvS) (env : Lo) : Option Sl → Res Out
  | some (.ol ds) => (loopF tg b ds (env.set i .no)).bind (putC i ds)
  | _ => fFor (fIter (fVar i)) tg b env
@[simp] theorem forBC_ol (i : Nat) (tg : Tgt) (b : EvS) (env : Lo) (ds : List D) : forBC i tg b env (some (.ol ds)) = (loopF tg b ds (env.set i .no)).bind (putC i ds) := eqq rfl
@[simp] theorem forBC_sh (i : Nat) (tg : Tgt) (b : EvS) (env : Lo) (d : D) : forBC i tg b env (some (.sh d)) = fFor (fIter (fVar i)) tg b env := eqq rfl
@[simp] theorem ev_forB (i : Nat) (tg : Tgt) (b : EvS) (env : Lo) : fForB i tg b env = forBC i tg b env env[i]? := by
  have key : ∀ o : Option Sl, (match o with | some (.ol ds) => (do let o ← loopF tg b ds (env.set i .no); Res.ok (putB i ds o)) | _ => fFor (fIter (fVar i)) tg b env) = forBC i tg b env o := by
    intro o
    cases o with
    | none => rfl
    | some s => cases s <;> rfl
  exact key _
def putR (i : Nat) (ds : List D) (p : Sl × Lo) : Res (Sl × Lo) := .ok (p.1, p.2.set i (.ol ds))
@[simp] theorem putR_ev (i : Nat) (ds : List D) (r : Sl) (e : Lo) : putR i ds (r, e) = .ok (r, e.set i (.ol ds)) := eqq rfl
def lcBC (i : Nat) (tg : Tgt) (ft : EvT) (fe : EvF) (own : List Nat) (env : Lo) : Option Sl → Res (Sl × Lo)
  | some (.ol ds) => (lcC tg ft fe own ([.ol ds], ds, env.set i .no)).bind (putR i ds)
  | _ => fLc (fIter (fVar i)) tg ft fe own env
@[simp] theorem lcBC_ol (i : Nat) (tg : Tgt) (ft : EvT) (fe : EvF) (own : List Nat) (env : Lo) (ds : List D) : lcBC i tg ft fe own env (some (.ol ds)) = (lcC tg ft fe own ([.ol ds], ds, env.set i .no)).bind (putR i ds) := eqq rfl
@[simp] theorem lcBC_sh (i : Nat) (tg : Tgt) (ft : EvT) (fe : EvF) (own : List Nat) (env : Lo) (d : D) : lcBC i tg ft fe own env (some (.sh d)) = fLc (fIter (fVar i)) tg ft fe own env := eqq rfl
@[simp] theorem ev_lcB (i : Nat) (tg : Tgt) (ft : EvT) (fe : EvF) (own : List Nat) (env : Lo) : fLcB i tg ft fe own env = lcBC i tg ft fe own env env[i]? := by
  have key : ∀ o : Option Sl, o = env[i]? → (match o with | some (.ol ds) => (do let (r, e) ← fLc (fTakeI i) tg ft fe own env; Res.ok (r, e.set i (.ol ds))) | _ => fLc (fIter (fVar i)) tg ft fe own env) = lcBC i tg ft fe own env o := by
    intro o ho
    cases o with
    | none => rfl
    | some s =>
      cases s <;> first | rfl | skip
      rename_i ds
      show (fLc (fTakeI i) tg ft fe own env).bind _ = _
      have e1 : fTakeI i env = .ok ([.ol ds], ds, env.set i .no) := by unfold fTakeI; rw [← ho]
      rw [ev_lc, e1]
      rfl
  exact key _ rfl
/-! ### a comprehension within a comprehension -/
def relabS (scope sc : Scope) : Scope :=
  { scope with names := scope.names.map fun (n, k) => if (k == .free && sc.kind == .function && sc.names.lookup n == some .cell) then (n, .cell) else (n, k) }
theorem relab_eq (scope : Scope) (env : Env) : relabel scope env = relabS scope env.scope := rfl
theorem blkOk_in {N : List Str} {scope1 scope2 sc0 : Scope} {env : Env} {own : List (Str × Nat)} (he : env.scope = sc0) (h : blkC N (relabS scope1 sc0) scope2 own = true) : BlkOk N (relabel scope1 env) scope2 own := by
  rw [relab_eq, he]
  exact blkOk_by h
end FL

/-! FX: shapes and equality of data, comprehensions that pick -/
namespace FL
open PySem PySem.Spec PyProof.Rows L2
/-- data of at most k levels that may be compared -/
def Lay (k : Nat) (d : D) : Prop := d.canLay0 = true ∧ d.depth ≤ k
theorem Lay.shaped {k : Nat} {d : D} (h : Lay k d) (hk : k ≤ 64 := by decide) : shapedD d = true := by
  have h2 := h.2
  unfold shapedD SeqAt.shaped
  rw [h.1]
  simp
  omega
theorem Lay.int (i : Int) : Lay 0 (.int i) := ⟨rfl, Nat.le_refl _⟩
theorem Lay.mono {k m : Nat} {d : D} (h : Lay k d) (hk : k ≤ m) : Lay m d := ⟨h.1, Nat.le_trans h.2 hk⟩
theorem layAll {k : Nat} : ∀ {ds : List D}, (∀ d ∈ ds, Lay k d) → PyData.canLayAll0 ds = true ∧ PyData.depthAll ds ≤ k
  | [], _ => ⟨rfl, Nat.zero_le _⟩
  | d :: ds, h => by
    have h1 := h d List.mem_cons_self
    have h2 := layAll (k := k) (ds := ds) fun x hx => h x (List.mem_cons_of_mem _ hx)
    refine ⟨?_, ?_⟩
    · show (d.canLay0 && PyData.canLayAll0 ds) = true
      rw [h1.1, h2.1]; rfl
    · show max d.depth (PyData.depthAll ds) ≤ k
      exact Nat.max_le.mpr ⟨h1.2, h2.2⟩
theorem Lay.list {k : Nat} {ds : List D} (h : ∀ d ∈ ds, Lay k d) : Lay (k + 1) (.list ds) := ⟨(layAll h).1, Nat.succ_le_succ (layAll h).2⟩
theorem Lay.tuple {k : Nat} {ds : List D} (h : ∀ d ∈ ds, Lay k d) : Lay (k + 1) (.tuple ds) := ⟨(layAll h).1, Nat.succ_le_succ (layAll h).2⟩
theorem layInts (ns : List Int) : ∀ d ∈ ns.map PyData.int, Lay 0 d := by
  intro d h
  obtain ⟨i, _, rfl⟩ := List.mem_map.mp h
  exact .int i
theorem Lay.refl {k : Nat} {d : D} (h : Lay k d) : PyData.eqv d d = true := SeqAt.eqv_refl d h.1
@[simp] theorem isND_none : isND .none .none = some (.sh (.bool true)) := eqq rfl
@[simp] theorem isND_int (i : Int) : isND (.int i) .none = some (.sh (.bool false)) := eqq rfl
@[simp] theorem isND_list (ds : List D) : isND (.list ds) .none = some (.sh (.bool false)) := eqq rfl
@[simp] theorem isND_tuple (ds : List D) : isND (.tuple ds) .none = some (.sh (.bool false)) := eqq rfl
@[simp] theorem notND_none : notND .none .none = some (.sh (.bool false)) := eqq rfl
@[simp] theorem notND_int (i : Int) : notND (.int i) .none = some (.sh (.bool true)) := eqq rfl
@[simp] theorem notND_list (ds : List D) : notND (.list ds) .none = some (.sh (.bool true)) := eqq rfl
@[simp] theorem notND_tuple (ds : List D) : notND (.tuple ds) .none = some (.sh (.bool true)) := eqq rfl
@[simp] theorem isi_list (T : String) (ds : List D) : isiD T (.list ds) = ("list" == T || (T == "int" && "list" == "bool")) := eqq rfl
@[simp] theorem isi_tuple (T : String) (ds : List D) : isiD T (.tuple ds) = ("tuple" == T || (T == "int" && "tuple" == "bool")) := eqq rfl
@[simp] theorem isi_none (T : String) : isiD T .none = ("NoneType" == T || (T == "int" && "NoneType" == "bool")) := eqq rfl
/-- a comprehension that picks nothing -/
theorem comp_none {tg : Tgt} {ft : EvT} {fe : EvF} {own : List Nat} {E : Lo} : ∀ (ds acc : List D),
    (∀ d ∈ ds, ∃ e1 e2, bindT tg d E = some e1 ∧ ft e1 = .ok (false, e2) ∧ wipeE e2 own = E) → compF tg ft fe own ds acc E = .ok (acc, E)
  | [], acc, _ => rfl
  | d :: ds, acc, h => by
    obtain ⟨e1, e2, q1, q2, q3⟩ := h d List.mem_cons_self
    have ih := comp_none (fe := fe) ds acc fun x hx => h x (List.mem_cons_of_mem _ hx)
    show (Res.ofO (bindT tg d E)).bind _ = _
    rw [q1]
    show (ft e1).bind _ = _
    rw [q2]
    show compF tg ft fe own ds acc (wipeE e2 own) = _
    rw [q3, ih]
@[simp] theorem addD_list (a b : List D) : addD (.list a) (.list b) = if a.length + b.length ≤ 16777216 then some (.ol (a ++ b)) else none := eqq rfl
@[simp] theorem addD_tuple (a b : List D) : addD (.tuple a) (.tuple b) = if a.length + b.length ≤ 16777216 then some (.sh (.tuple (a ++ b))) else none := eqq rfl
theorem sum_ints (ns : List Int) : sumD [.list (ns.map PyData.int)] = some (.sh (.int ns.sum)) := sumD_ints ns
end FL

namespace EN
open PySem PySem.Spec PyProof.Rows L2 FL
def e1_blend : EvF := (fOp addD (fOp mulD (fVar 1) (fVar 4)) (fOp mulD (fVar 3) (fVar 5)))
def f_blend : Fn := runFn 6 4 [0, 1, 2, 3]
    (fRet (fLc (fZip (fCons (fVar 0) (fCons (fVar 2) fNil))) (.tp [4, 5]) fYes e1_blend [4, 5]))
def b1_whole_sum : EvS := (fSeq (fAsg 5 (fOp ixD (fVar 0) (fVar 4)))
    (fSeq (fIfS (fTst (fOp neD (fOp modD (fOp ixD (fVar 2) (fVar 4)) (fOp ixD (fVar 5) (fVar 4))) (fC (.int 0))))
    (fRet (fC .none))
    fNext)
    (fSeq (fAsg 6 (fOp divD (fOp ixD (fVar 2) (fVar 4)) (fOp ixD (fVar 5) (fVar 4))))
    (fSeq (fDrop (fMut 3 appendM (fCons (fVar 6) fNil)))
    (fAsg 2 (fCall f_blend (fCons (fVar 2) (fCons (fC (.int 1)) (fCons (fVar 5) (fCons (fOp1 negD (fVar 6)) fNil))))))))))
def f_whole_sum : Fn := runFn 7 2 [0, 1]
    (fSeq (fAsg 2 (fCB listD (fCons (fVar 1) fNil)))
    (fSeq (fAsg 3 (fLst fNil))
    (fSeq (fFor (fRng3 (fCons (fOp subD (fCB lenD (fCons (fVar 0) fNil)) (fC (.int 1))) (fCons (fOp1 negD (fC (.int 1))) (fCons (fOp1 negD (fC (.int 1))) fNil)))) (.nm 4) b1_whole_sum)
    (fRet (fOp1 revD (fVar 3))))))
def f_l_cell_at : Fn := runFn 2 2 [0, 1]
    (fSeq (fIfS (fTst (fOp ltD (fVar 1) (fScLen 0)))
    (fRet (fScIx 0 (fVar 1)))
    fNext)
    (fRet (fC (.int 0))))
def b1_l_stream : EvS := (fSeq (fAsg 3 (fOp modD (fOp addD (fOp addD (fOp addD (fOp mulD (fVar 3) (fVar 3)) (fOp mulD (fC (.int 48271)) (fVar 3))) (fOp mulD (fC (.int 31)) (fVar 5))) (fVar 1)) (fC (.int 2147483647))))
    (fDrop (fMut 4 appendM (fCons (fOp divD (fVar 3) (fC (.int 3))) fNil))))
def f_l_stream : Fn := runFn 6 3 [0, 1, 2]
    (fSeq (fAsg 3 (fOp modD (fOp addD (fOp addD (fOp modD (fVar 0) (fC (.int 2147483629))) (fOp mulD (fC (.int 7919)) (fVar 1))) (fC (.int 13))) (fC (.int 2147483647))))
    (fSeq (fAsg 4 (fLst fNil))
    (fSeq (fFor (fRng (fCons (fVar 2) fNil)) (.nm 5) b1_l_stream)
    (fRet (fVar 4)))))
def e1_l_square : EvF := (fOp modD (fOp powD (fOp ixD (fVar 4) (fOp addD (fC (.int 2)) (fVar 8))) (fC (.int 4))) (fOp ixD (fOp ixD (fVar 2) (fVar 8)) (fVar 8)))
def b2_l_square : EvS := (fSeq (fAsg 4 (fCall f_l_stream (fCons (fCall f_l_cell_at (fCons (fVar 0) (fCons (fOp addD (fC (.int 1)) (fVar 3)) fNil))) (fCons (fVar 3) (fCons (fOp addD (fVar 1) (fC (.int 2))) fNil)))))
    (fSeq (fAsg 5 (fLst (fCons (fOp addD (fC (.int 1)) (fOp modD (fOp divD (fOp ixD (fVar 4) (fC (.int 0))) (fC (.int 5))) (fC (.int 9)))) (fCons (fOp addD (fC (.int 1)) (fOp modD (fOp ixD (fVar 4) (fC (.int 1))) (fC (.int 999999)))) (fCons (fOp addD (fC (.int 1)) (fOp modD (fOp mulD (fOp powD (fOp ixD (fVar 4) (fC (.int 1))) (fC (.int 3))) (fOp ixD (fVar 4) (fC (.int 0)))) (fOp powD (fC (.int 10)) (fC (.int 30))))) (fCons (fC (.int 1)) (fCons (fC (.int 12)) fNil)))))))
    (fSeq (fAsg 6 (fOp ixD (fVar 5) (fOp modD (fOp ixD (fVar 4) (fC (.int 0))) (fC (.int 5)))))
    (fSeq (fAsg 7 (fLc (fRng (fCons (fVar 3) fNil)) (.nm 8) fYes e1_l_square [8]))
    (fDrop (fMut 2 appendM (fCons (fCB tupleD (fCons (fOp addD (fOp addD (fVar 7) (fLst (fCons (fVar 6) fNil))) (fOp mulD (fLst (fCons (fC (.int 0)) fNil)) (fOp subD (fOp subD (fVar 1) (fVar 3)) (fC (.int 1))))) fNil)) fNil)))))))
def f_l_square : Fn := runFn 9 2 [0, 1]
    (fSeq (fAsg 2 (fLst fNil))
    (fSeq (fFor (fRng (fCons (fVar 1) fNil)) (.nm 3) b2_l_square)
    (fRet (fVar 2))))
def e1_l_summed : EvF := (fOp mulD (fOp ixD (fVar 1) (fVar 4)) (fOp ixD (fOp ixD (fVar 0) (fVar 4)) (fVar 3)))
def e2_l_summed : EvF := (fCB sumD (fCons (fLc (fRng (fCons (fVar 2) fNil)) (.nm 4) fYes e1_l_summed [4]) fNil))
def f_l_summed : Fn := runFn 5 2 [0, 1]
    (fSeq (fAsg 2 (fCB lenD (fCons (fVar 0) fNil)))
    (fRet (fCB tupleD (fCons (fLc (fRng (fCons (fVar 2) fNil)) (.nm 3) fYes e2_l_summed [3]) fNil))))
def e1_l_due : EvF := (fOp subD (fVar 6) (fOp mulD (fOp ixD (fVar 3) (fVar 4)) (fVar 7)))
def b2_l_due : EvS := (fSeq (fAsg 5 (fOp modD (fOp ixD (fVar 2) (fVar 4)) (fOp ixD (fOp ixD (fVar 0) (fVar 4)) (fVar 4))))
    (fSeq (fIfS (fTst (fOp neD (fVar 5) (fC (.int 0))))
    (fRet (fC .none))
    fNext)
    (fSeq (fStore 3 (fOp divD (fOp ixD (fVar 2) (fVar 4)) (fOp ixD (fOp ixD (fVar 0) (fVar 4)) (fVar 4))) (fVar 4))
    (fAsg 2 (fLc (fZip (fCons (fVar 2) (fCons (fOp ixD (fVar 0) (fVar 4)) fNil))) (.tp [6, 7]) fYes e1_l_due [6, 7])))))
def f_l_due : Fn := runFn 8 2 [0, 1]
    (fSeq (fAsg 2 (fCB listD (fCons (fVar 1) fNil)))
    (fSeq (fAsg 3 (fOp mulD (fLst (fCons (fC (.int 0)) fNil)) (fCB lenD (fCons (fVar 1) fNil))))
    (fSeq (fFor (fRng3 (fCons (fOp subD (fCB lenD (fCons (fVar 1) fNil)) (fC (.int 1))) (fCons (fOp1 negD (fC (.int 1))) (fCons (fOp1 negD (fC (.int 1))) fNil)))) (.nm 4) b2_l_due)
    (fRet (fVar 3)))))
def t1_l_is : EvT := (fOrT (fNotT (fTst (fIsi "int" (fVar 2)))) (fTst (fIsi "bool" (fVar 2))))
def e2_l_is : EvF := (fVar 2)
def f_l_is : Fn := runFn 3 2 [0, 1]
    (fSeq (fIfS (fTst (fOp isND (fVar 1) (fC .none)))
    (fRet (fOp isND (fVar 0) (fC .none)))
    fNext)
    (fSeq (fIfS (fOrT (fNotT (fTst (fIsi "list" (fVar 0)))) (fTst (fOp neD (fVar 0) (fVar 1))))
    (fRet (fC (.bool false)))
    fNext)
    (fRet (fOp eqD (fCB lenD (fCons (fLcB 0 (.nm 2) t1_l_is e2_l_is [2]) fNil)) (fC (.int 0))))))
def b1_law : EvS := (fSeq (fAsg 7 (fOp subD (fOp modD (fOp powD (fOp ixD (fVar 4) (fVar 6)) (fC (.int 5))) (fOp powD (fC (.int 10)) (fC (.int 40)))) (fOp powD (fC (.int 10)) (fC (.int 39)))))
    (fDrop (fMut 5 appendM (fCons (fOp ixD (fLst (fCons (fOp subD (fOp modD (fOp ixD (fVar 4) (fVar 6)) (fC (.int 9))) (fC (.int 4))) (fCons (fOp subD (fOp modD (fOp ixD (fVar 4) (fVar 6)) (fC (.int 1999999999))) (fC (.int 999999999))) (fCons (fVar 7) fNil)))) (fOp modD (fOp divD (fVar 1) (fC (.int 7))) (fC (.int 3)))) fNil))))
def f_law : Fn := runFn 13 1 [0]
    (fSeq (fAsg 1 (fCall f_l_cell_at (fCons (fVar 0) (fCons (fC (.int 0)) fNil))))
    (fSeq (fAsg 2 (fOp addD (fC (.int 1)) (fOp modD (fVar 1) (fC (.int 7)))))
    (fSeq (fAsg 3 (fCall f_l_square (fCons (fVar 0) (fCons (fVar 2) fNil))))
    (fSeq (fAsg 4 (fCall f_l_stream (fCons (fCall f_l_cell_at (fCons (fVar 0) (fCons (fC (.int 9)) fNil))) (fCons (fC (.int 90)) (fCons (fC (.int 9)) fNil)))))
    (fSeq (fAsg 5 (fLst fNil))
    (fSeq (fFor (fRng (fCons (fVar 2) fNil)) (.nm 6) b1_law)
    (fSeq (fAsg 8 (fCall f_l_summed (fCons (fVar 3) (fCons (fVar 5) fNil))))
    (fSeq (fAsg 9 (fCB listD (fCons (fVar 3) fNil)))
    (fSeq (fAsg 10 (fCall f_whole_sum (fCons (fVar 9) (fCons (fVar 8) fNil))))
    (fSeq (fIfS (fOrT (fNotT (fTst (fCall f_l_is (fCons (fVar 10) (fCons (fVar 5) fNil))))) (fTst (fOp neD (fVar 9) (fVar 3))))
    (fRet (fC (.bool false)))
    fNext)
    (fSeq (fDrop (fMut 10 appendM (fCons (fC (.int 0)) fNil)))
    (fSeq (fAsg 11 (fOp modD (fOp ixD (fVar 4) (fC (.int 7))) (fVar 2)))
    (fSeq (fAsg 12 (fOp addD (fOp addD (fSlice (fVar 8) fNoPart (fPart (fVar 11))) (fTup (fCons (fOp addD (fOp addD (fOp ixD (fVar 8) (fVar 11)) (fC (.int 1))) (fOp modD (fOp ixD (fVar 4) (fC (.int 8))) (fOp ixD (fLst (fCons (fC (.int 2)) (fCons (fC (.int 12)) (fCons (fOp powD (fC (.int 10)) (fC (.int 6))) fNil)))) (fOp modD (fOp divD (fOp ixD (fVar 4) (fC (.int 7))) (fC (.int 7))) (fC (.int 3)))))) fNil))) (fSlice (fVar 8) (fPart (fOp addD (fVar 11) (fC (.int 1)))) fNoPart)))
    (fSeq (fIfS (fNotT (fTst (fCall f_l_is (fCons (fCall f_whole_sum (fCons (fVar 3) (fCons (fVar 12) fNil))) (fCons (fCall f_l_due (fCons (fVar 3) (fCons (fVar 12) fNil))) fNil)))))
    (fRet (fC (.bool false)))
    fNext)
    (fRet (fAndV (fCall f_l_is (fCons (fCall f_whole_sum (fCons (fVar 3) (fCons (fCB tupleD (fCons (fOp mulD (fLst (fCons (fC (.int 0)) fNil)) (fVar 2)) fNil)) fNil))) (fCons (fOp mulD (fLst (fCons (fC (.int 0)) fNil)) (fVar 2)) fNil))) (fCall f_l_is (fCons (fCall f_whole_sum (fCons (fVar 3) (fCons (fVar 8) fNil))) (fCons (fVar 5) fNil)))))))))))))))))))
theorem cell_at (ns : List Int) (k : Int) (hk : 0 ≤ k) : ∃ c : Int, f_l_cell_at [.sc ns, .sh (.int k)] = .ok (.sh (.int c), [.sc ns, .sh (.int k)]) := by
  unfold f_l_cell_at
  rw [run_eq]
  by_cases h : k < (ns.length : Int)
  · have hl : k.toNat < ns.length := by omega
    have e : atI ns k = some ns[k.toNat] := at_int hk (List.getElem?_eq_getElem hl)
    refine ⟨ns[k.toNat], ?_⟩
    simp [h, e, backArgs_eq, List.range_succ]
  · refine ⟨0, ?_⟩
    simp [h, backArgs_eq, List.range_succ]
theorem stream_loop (salt : Int) (h0 : 0 ≤ salt) (h1 : salt ≤ 1000) (a0 a1 a2 a5 : Sl) (n : Nat) (num : Int) (hn : n ≤ 1000) (hm : 0 ≤ num ∧ num < 2147483647) :
    ∃ e' : Lo, loopF (.nm 5) b1_l_stream (rngD 0 n) [a0, .sh (.int salt), a2, .sh (.int num), .ol [], a5] = .ok (.nx e') ∧ ∃ (xs : List Int) (num' : Int) (b5 : Sl), e' = [a0, .sh (.int salt), a2, .sh (.int num'), .ol (xs.map PyData.int), b5] ∧ xs.length = n ∧ ∀ x ∈ xs, 0 ≤ x ∧ x < 715827883 := by
  have := loop_inv (tg := .nm 5) (b := b1_l_stream) (fun i e => ∃ (xs : List Int) (num' : Int) (b5 : Sl), e = [a0, .sh (.int salt), a2, .sh (.int num'), .ol (xs.map PyData.int), b5] ∧ xs.length = i ∧ (0 ≤ num' ∧ num' < 2147483647) ∧ ∀ x ∈ xs, 0 ≤ x ∧ x < 715827883)
    (rngD 0 n) (env := [a0, .sh (.int salt), a2, .sh (.int num), .ol [], a5]) ⟨[], num, a5, rfl, rfl, hm, by simp⟩ ?_
  · obtain ⟨e', q, xs, num', b5, e, hl, _, hx⟩ := this
    refine ⟨e', q, xs, num', b5, e, ?_, hx⟩
    rw [hl]; simp [rngD]
  · intro i d e hd ⟨xs, num', b5, he, hl, hm', hx⟩
    have hi : i < n := by
      have := (List.getElem?_eq_some_iff.mp hd).1
      simpa [rngD] using this
    have hdv : d = .int i := by
      unfold rngD at hd
      rw [List.getElem?_map, List.getElem?_range hi] at hd
      simp at hd
      exact hd.symm
    subst he hdv
    have m1 : mulOk num' num' = true := mulOk_left (by omega) (by omega)
    have m2 : mulOk 48271 num' = true := mulOk_left (by omega) (by omega)
    have m3 : mulOk 31 (i : Int) = true := mulOk_left (by omega) (by omega)
    let num2 := (num' * num' + 48271 * num' + 31 * (i : Int) + salt) % 2147483647
    have hn2 : 0 ≤ num2 ∧ num2 < 2147483647 := ⟨Int.emod_nonneg _ (by omega), Int.emod_lt_of_pos _ (by omega)⟩
    have dv : divOk num2 3 = true := by
      unfold divOk
      rw [PyProof.noPylong_small (by decide)]
      rfl
    refine ⟨_, [a0, .sh (.int salt), a2, .sh (.int num2), .ol ((xs ++ [num2.fdiv 3]).map PyData.int), .sh (.int i)], rfl, .inl ?_, xs ++ [num2.fdiv 3], num2, _, rfl, by simp [hl], hn2, ?_⟩
    · unfold b1_l_stream
      simp [mulD_int m1, mulD_int m2, mulD_int m3, modD_int, divD_int dv, show xs.length < 16777216 by omega, num2]
    · intro x hx'
      rcases List.mem_append.mp hx' with h | h
      · exact hx x h
      · rw [List.mem_singleton] at h
        subst h
        rw [Int.fdiv_eq_ediv_of_nonneg _ (by omega)]
        omega

theorem stream (c salt : Int) (h0 : 0 ≤ salt) (h1 : salt ≤ 1000) (n : Nat) (hn : n ≤ 1000) :
    ∃ xs : List Int, f_l_stream [.sh (.int c), .sh (.int salt), .sh (.int n)] = .ok (.ol (xs.map PyData.int), [.sh (.int c), .sh (.int salt), .sh (.int n)]) ∧ xs.length = n ∧ ∀ x ∈ xs, 0 ≤ x ∧ x < 715827883 := by
  have m1 : mulOk 7919 salt = true := mulOk_left (by omega) (by omega)
  obtain ⟨num, en⟩ : ∃ t : Int, t = (c % 2147483629 + 7919 * salt + 13) % 2147483647 := ⟨_, rfl⟩
  have hm : 0 ≤ num ∧ num < 2147483647 := by rw [en]; exact ⟨Int.emod_nonneg _ (by omega), Int.emod_lt_of_pos _ (by omega)⟩
  obtain ⟨e', q, xs, num', b5, e, hl, hx⟩ := stream_loop salt h0 h1 (.sh (.int c)) .no (.sh (.int n)) .no n num hn hm
  refine ⟨xs, ?_, hl, hx⟩
  unfold f_l_stream
  rw [run_eq]
  subst e
  simp [modD_int, mulD_int m1, show (n : Int) < 4611686018427387904 by omega, show -4611686018427387904 ≤ (n : Int) by omega]
  rw [← en, q]
  simp [backArgs_eq, List.range_succ]
theorem zipD_ints : ∀ xs ys : List Int, zipD (xs.map PyData.int) (ys.map PyData.int) = (List.zip xs ys).map fun p => PyData.tuple [.int p.1, .int p.2]
  | [], _ => rfl
  | _ :: _, [] => rfl
  | x :: xs, y :: ys => by
    have := zipD_ints xs ys
    unfold zipD at this ⊢
    simp [this]
abbrev T (ys : List Int) : D := .tuple (ys.map PyData.int)
abbrev I (ys : List Int) : List D := ys.map PyData.int
abbrev sqD (sq : List (List Int)) : List D := sq.map T
theorem blend_ok (m k : Int) (xs ys : List Int) (hm : ∀ x ∈ xs, mulOk m x = true) (hk : ∀ y ∈ ys, mulOk k y = true) (hl : xs.length ≤ 1000) :
    ∃ s0 s2, f_blend [.ol (I xs), .sh (.int m), .sh (T ys), .sh (.int k)] = .ok (.ol (I (List.zipWith (fun x y => m * x + k * y) xs ys)), [s0, .sh (.int m), s2, .sh (.int k)]) := by
  have hc := comp_map (tg := .tp [4, 5]) (ft := fYes) (fe := e1_blend) (own := [4, 5]) (E := [.sh (.list (I xs)), .sh (.int m), .sh (T ys), .sh (.int k), .no, .no])
    (fun d => match d with | .tuple [.int x, .int y] => .int (m * x + k * y) | d => d) (zipD (xs.map PyData.int) (ys.map PyData.int)) [] (by rw [zipD_ints]; simp; omega) ?_
  · refine ⟨.sh (.list (I xs)), .sh (T ys), ?_⟩
    unfold f_blend
    rw [run_eq]
    simp [I, T]
    simp only [I, T] at hc
    rw [hc]
    simp [backArgs_eq, List.range_succ]
    rw [zipD_ints, List.map_map, ← List.map_uncurry_zip_eq_zipWith]
    rfl
  · intro d hd
    rw [zipD_ints] at hd
    obtain ⟨⟨x, y⟩, hp, rfl⟩ := List.mem_map.mp hd
    have hx := hm x (List.of_mem_zip hp).1
    have hy := hk y (List.of_mem_zip hp).2
    refine ⟨_, .sh (.int (m * x + k * y)), [.sh (.list (I xs)), .sh (.int m), .sh (T ys), .sh (.int k), .sh (.int x), .sh (.int y)], rfl, rfl, ?_, _, rfl, rfl⟩
    unfold e1_blend
    simp [mulD_int hx, mulD_int hy]
/-- rows of a square: whole numbers, above 0 at the row's own place, 0 beyond it -/
structure Sq (n : Nat) (sq : List (List Int)) : Prop where
  len : sq.length = n
  row : ∀ (k : Nat) (r : List Int), sq[k]? = some r → r.length = n ∧ (∀ x ∈ r, Bd 101 x) ∧ (∃ d, r[k]? = some d ∧ 0 < d) ∧ ∀ (j : Nat) (x : Int), r[j]? = some x → k < j → x = 0
/-- what whole_sum reckons -/
def wsF (sq : List (List Int)) : Nat → List Int → Option (List Int)
  | 0, _ => some []
  | p + 1, left =>
    let r := sq[p]?.getD []
    let a := left[p]?.getD 0
    let b := r[p]?.getD 0
    if a % b = 0 then (wsF sq p (List.zipWith (fun x y => x - a.fdiv b * y) left r)).map (· ++ [a.fdiv b]) else none
theorem wsF_succ {sq : List (List Int)} {p : Nat} {left r : List Int} {a b : Int} (hr : sq[p]? = some r) (ha : left[p]? = some a) (hb : r[p]? = some b) :
    wsF sq (p + 1) left = if a % b = 0 then (wsF sq p (List.zipWith (fun x y => x - a.fdiv b * y) left r)).map (· ++ [a.fdiv b]) else none := by
  show (if (left[p]?.getD 0) % ((sq[p]?.getD [])[p]?.getD 0) = 0 then _ else _) = _
  simp only [hr, ha, hb, Option.getD_some]
theorem dn_succ (lo : Int) (p : Nat) : dnD lo (p + 1) = .int lo :: dnD (lo - 1) p := by
  unfold dnD
  rw [List.range_succ_eq_map, List.map_cons, List.map_map]
  congr 1
  · simp
  · apply List.map_congr_left
    intro i _
    show PyData.int (lo - ((i + 1 : Nat) : Int)) = PyData.int (lo - 1 - i)
    congr 1
    omega
theorem fdiv_bd {k : Nat} {a b : Int} (h : Bd k a) (hb : 0 < b) : Bd (k + 1) (a.fdiv b) := by
  rw [Int.fdiv_eq_ediv_of_nonneg a (by omega)]
  have h1 := Int.natAbs_ediv_le_natAbs a b
  unfold Bd at *
  rw [Nat.pow_succ]
  omega
theorem left_bd {k : Nat} {q : Int} {left r : List Int} (hl : ∀ x ∈ left, Bd k x) (hr : ∀ x ∈ r, Bd 101 x) (hq : Bd (k + 1) q) : ∀ x ∈ List.zipWith (fun x y => x - q * y) left r, Bd (k + 104) x := by
  intro x hx
  rw [List.mem_iff_getElem] at hx
  obtain ⟨i, hi, rfl⟩ := hx
  simp at hi
  simp only [List.getElem_zipWith]
  exact (hl _ (List.getElem_mem (by omega))).sub (hq.mul (hr _ (List.getElem_mem (by omega)))) (by omega) (by omega)
theorem ws_loop {n : Nat} {sq : List (List Int)} (S : Sq n sq) (hn : n ≤ 100) (a1 : Sl) : ∀ (p : Nat) (left acc : List Int) (k : Nat) (s4 s5 s6 : Sl), p ≤ n → left.length = n → (∀ x ∈ left, Bd k x) → k + 104 * p ≤ 20000 → acc.length + p ≤ 1000 →
    ∃ o, loopF (.nm 4) b1_whole_sum (dnD ((p : Int) - 1) p) [.ol (sqD sq), a1, .ol (I left), .ol (I acc), s4, s5, s6] = .ok o ∧
      match wsF sq p left with
      | none => ∃ s2 s3 s4 s5 s6, o = .rt (.sh .none) [.ol (sqD sq), a1, s2, s3, s4, s5, s6]
      | some ms => ∃ s2 s4 s5 s6, o = .nx [.ol (sqD sq), a1, s2, .ol (I (acc ++ ms.reverse)), s4, s5, s6]
  | 0, left, acc, k, s4, s5, s6, hp, hl, hb, hk, ha => ⟨_, rfl, .ol (I left), s4, s5, s6, by simp⟩
  | p + 1, left, acc, k, s4, s5, s6, hp, hl, hb, hk, ha => by
    have hpr : p < sq.length := by rw [S.len]; omega
    obtain ⟨r, er⟩ : ∃ r, sq[p]? = some r := ⟨_, List.getElem?_eq_getElem hpr⟩
    obtain ⟨rl, rb, ⟨d, ed, hd⟩, _⟩ := S.row p r er
    obtain ⟨a, ea⟩ : ∃ a, left[p]? = some a := ⟨_, List.getElem?_eq_getElem (by omega)⟩
    have hab : Bd k a := hb a (List.mem_of_getElem? ea)
    have hdb : Bd 101 d := rb d (List.mem_of_getElem? ed)
    rw [wsF_succ er ea ed, dn_succ]
    have e1 : (((p + 1 : Nat) : Int) - 1) = (p : Int) := by omega
    rw [e1]
    have g1 : atI (sqD sq) (p : Int) = some (T r) := at_nat (by rw [List.getElem?_map, er]; rfl)
    have g2 : atI (I left) (p : Int) = some (.int a) := at_nat (by rw [List.getElem?_map, ea]; rfl)
    have g3 : atI (I r) (p : Int) = some (.int d) := at_nat (by rw [List.getElem?_map, ed]; rfl)
    have dv : divOk a d = true := hdb.dOk (by omega) (by omega)
    by_cases h0 : a % d = 0
    · rw [if_pos h0]
      have hq := fdiv_bd hab hd
      obtain ⟨q, eq⟩ : ∃ q : Int, q = a.fdiv d := ⟨_, rfl⟩
      rw [← eq] at hq ⊢
      obtain ⟨t0, t2, bl⟩ := blend_ok 1 (-q) left r (fun x _ => mulOk_left (by omega) (by omega)) (fun y hy => hq.neg.mOk (rb y hy) (by omega)) (by omega)
      have ez : List.zipWith (fun x y => 1 * x + -q * y) left r = List.zipWith (fun x y => x - q * y) left r := by
        congr 1
        funext x y
        rw [Int.one_mul, Int.neg_mul, Int.sub_eq_add_neg]
      rw [ez] at bl
      obtain ⟨o, ho, hm⟩ := ws_loop S hn a1 p (List.zipWith (fun x y => x - q * y) left r) (acc ++ [q]) (k + 104) (.sh (.int p)) (.sh (T r)) (.sh (.int q)) (by omega) (by simp [rl, hl]) (left_bd hb rb hq) (by omega) (by simp; omega)
      refine ⟨o, ?_, ?_⟩
      · rw [← ho]
        simp
        unfold b1_whole_sum
        simp only [T, I] at g1 g2 g3 bl
        simp [I, T, g1, g2, g3, modD_int hd, divD_int dv, neD_ok, eqv_int, h0, ← eq, show acc.length < 16777216 by omega, bl]
      · cases hw : wsF sq p (List.zipWith (fun x y => x - q * y) left r) with
        | none => rw [hw] at hm; exact hm
        | some ms =>
          rw [hw] at hm
          obtain ⟨s2, s4, s5, s6, e⟩ := hm
          exact ⟨s2, s4, s5, s6, by rw [e]; simp⟩
    · rw [if_neg h0]
      refine ⟨_, ?_, .ol (I left), .ol (I acc), .sh (.int p), .sh (T r), s6, rfl⟩
      simp
      unfold b1_whole_sum
      simp only [T, I] at g1 g2 g3
      have hf : (a % d == 0) = false := by simpa using h0
      simp [I, T, g1, g2, g3, modD_int hd, neD_ok, eqv_int, hf]
def optS : Option (List Int) → Sl
  | none => .sh .none
  | some ms => .ol (I ms)
theorem ws_ok {n : Nat} {sq : List (List Int)} (S : Sq n sq) (hn : n ≤ 100) (line : List Int) (hl : line.length = n) (hb : ∀ x ∈ line, Bd 1000 x) :
    f_whole_sum [.ol (sqD sq), .sh (T line)] = .ok (optS (wsF sq n line), [.ol (sqD sq), .sh (T line)]) := by
  obtain ⟨o, ho, hm⟩ := ws_loop S hn (.sh (T line)) n line [] 1000 .no .no .no (by omega) hl hb (by omega) (by simp; omega)
  unfold f_whole_sum
  rw [run_eq]
  have z : ((sq.length : Int)) = (n : Int) := by rw [S.len]
  simp only [T, I] at ho
  simp [T, z, show (n : Int) - 1 < 4611686018427387904 by omega, show -4611686018427387904 ≤ (n : Int) - 1 by omega, show ((n : Int) - 1 - -1).toNat = n by omega]
  simp at ho
  rw [ho]
  cases hw : wsF sq n line with
  | none =>
    rw [hw] at hm
    obtain ⟨s2, s3, s4, s5, s6, e⟩ := hm
    subst e
    simp [optS, backArgs_eq, List.range_succ]
  | some ms =>
    rw [hw] at hm
    obtain ⟨s2, s4, s5, s6, e⟩ := hm
    subst e
    simp [optS, backArgs_eq, List.range_succ]
theorem due_comp (q : Int) (p : Nat) (fs xs ys : List Int) (hq : ∀ y ∈ ys, mulOk q y = true) (hf : fs[p]? = some q) (hl : xs.length ≤ 1000) (a0 a1 a5 : Sl) (r : D) :
    compF (.tp [6, 7]) fYes e1_l_due [6, 7] (zipD (xs.map PyData.int) (ys.map PyData.int)) [] [a0, a1, .sh (.list (I xs)), .ol (I fs), .sh (.int p), a5, .no, .no] =
      .ok ((List.zipWith (fun x y => x - q * y) xs ys).map PyData.int, [a0, a1, .sh (.list (I xs)), .ol (I fs), .sh (.int p), a5, .no, .no]) := by
  have hc := comp_map (tg := .tp [6, 7]) (ft := fYes) (fe := e1_l_due) (own := [6, 7]) (E := [a0, a1, .sh (.list (I xs)), .ol (I fs), .sh (.int p), a5, .no, .no])
    (fun d => match d with | .tuple [.int x, .int y] => .int (x - q * y) | d => d) (zipD (xs.map PyData.int) (ys.map PyData.int)) [] (by rw [zipD_ints]; simp; omega) ?_
  · rw [hc, List.nil_append]
    congr 2
    rw [zipD_ints, List.map_map, ← List.map_uncurry_zip_eq_zipWith, List.map_map]
    rfl
  · intro d hd
    rw [zipD_ints] at hd
    obtain ⟨⟨x, y⟩, hp, rfl⟩ := List.mem_map.mp hd
    have hy := hq y (List.of_mem_zip hp).2
    have g : atI (fs.map PyData.int) (p : Int) = some (.int q) := at_nat (by rw [List.getElem?_map, hf]; rfl)
    refine ⟨_, .sh (.int (x - q * y)), [a0, a1, .sh (.list (I xs)), .ol (I fs), .sh (.int p), a5, .sh (.int x), .sh (.int y)], rfl, rfl, ?_, _, rfl, rfl⟩
    unfold e1_l_due
    simp [I, g, mulD_int hy]
theorem due_loop {n : Nat} {sq : List (List Int)} (S : Sq n sq) (hn : n ≤ 100) (a1 : Sl) : ∀ (p : Nat) (left tl : List Int) (k : Nat) (s4 s5 : Sl), p ≤ n → left.length = n → (∀ x ∈ left, Bd k x) → k + 104 * p ≤ 20000 → p + tl.length = n →
    ∃ o, loopF (.nm 4) b2_l_due (dnD ((p : Int) - 1) p) [.ol (sqD sq), a1, .ol (I left), .ol (I (List.replicate p 0 ++ tl)), s4, s5, .no, .no] = .ok o ∧
      match wsF sq p left with
      | none => ∃ s2 s3 s4 s5 s6 s7, o = .rt (.sh .none) [.ol (sqD sq), a1, s2, s3, s4, s5, s6, s7]
      | some ms => ∃ s2 s4 s5 s6 s7, o = .nx [.ol (sqD sq), a1, s2, .ol (I (ms ++ tl)), s4, s5, s6, s7]
  | 0, left, tl, k, s4, s5, hp, hl, hb, hk, ha => ⟨_, rfl, .ol (I left), s4, s5, .no, .no, by simp⟩
  | p + 1, left, tl, k, s4, s5, hp, hl, hb, hk, ha => by
    have hpr : p < sq.length := by rw [S.len]; omega
    obtain ⟨r, er⟩ : ∃ r, sq[p]? = some r := ⟨_, List.getElem?_eq_getElem hpr⟩
    obtain ⟨rl, rb, ⟨d, ed, hd⟩, _⟩ := S.row p r er
    obtain ⟨a, ea⟩ : ∃ a, left[p]? = some a := ⟨_, List.getElem?_eq_getElem (by omega)⟩
    have hab : Bd k a := hb a (List.mem_of_getElem? ea)
    have hdb : Bd 101 d := rb d (List.mem_of_getElem? ed)
    rw [wsF_succ er ea ed, dn_succ]
    have e1 : (((p + 1 : Nat) : Int) - 1) = (p : Int) := by omega
    rw [e1]
    have g1 : atI (sqD sq) (p : Int) = some (T r) := at_nat (by rw [List.getElem?_map, er]; rfl)
    have g2 : atI (I left) (p : Int) = some (.int a) := at_nat (by rw [List.getElem?_map, ea]; rfl)
    have g3 : atI (I r) (p : Int) = some (.int d) := at_nat (by rw [List.getElem?_map, ed]; rfl)
    have dv : divOk a d = true := hdb.dOk (by omega) (by omega)
    by_cases h0 : a % d = 0
    · rw [if_pos h0]
      have hq := fdiv_bd hab hd
      obtain ⟨q, eq⟩ : ∃ q : Int, q = a.fdiv d := ⟨_, rfl⟩
      rw [← eq] at hq ⊢
      have el : List.replicate (p + 1) (0 : Int) ++ tl = List.replicate p 0 ++ 0 :: tl := by
        rw [List.replicate_succ', List.append_assoc]; rfl
      have es : (I (List.replicate p 0 ++ 0 :: tl)).set p (.int q) = I (List.replicate p 0 ++ q :: tl) := by
        unfold I
        rw [← List.map_set, List.set_append_right _ _ (by simp)]
        simp
      have ix : ixN (I (List.replicate p 0 ++ 0 :: tl)).length (p : Int) = some p := ixN_nat (by simp)
      have gf : (List.replicate p 0 ++ q :: tl)[p]? = some q := by
        rw [List.getElem?_append_right (by simp)]; simp
      have dc := due_comp q p (List.replicate p 0 ++ q :: tl) left r (fun y hy => hq.mOk (rb y hy) (by omega)) gf (by omega) (.ol (sqD sq)) a1 (.sh (.int 0)) .none
      obtain ⟨o, ho, hm⟩ := due_loop S hn a1 p (List.zipWith (fun x y => x - q * y) left r) (q :: tl) (k + 104) (.sh (.int p)) (.sh (.int 0)) (by omega) (by simp [rl, hl]) (left_bd hb rb hq) (by omega) (by simp; omega)
      refine ⟨o, ?_, ?_⟩
      · rw [← ho, el]
        generalize hA : I (List.replicate p 0 ++ 0 :: tl) = A at es ix ⊢
        generalize hB : I (List.replicate p 0 ++ q :: tl) = B at es dc ⊢
        simp
        unfold b2_l_due
        have st : ∀ e : Lo, storV 3 (.int q) e (.sh (.int p)) (some (.ol A)) = .ok (.nx (e.set 3 (.ol (A.set p (.int q))))) := fun e => storV_at ix
        simp only [T, I] at g1 g2 g3 dc
        simp [I, T, g1, g2, g3, modD_int hd, divD_int dv, neD_ok, eqv_int, h0, ← eq, st, es]
        rw [dc]
        simp
      · cases hw : wsF sq p (List.zipWith (fun x y => x - q * y) left r) with
        | none => rw [hw] at hm; exact hm
        | some ms =>
          rw [hw] at hm
          obtain ⟨s2, s4, s5, s6, s7, e⟩ := hm
          exact ⟨s2, s4, s5, s6, s7, by rw [e]; simp⟩
    · rw [if_neg h0]
      refine ⟨_, ?_, .ol (I left), .ol (I (List.replicate (p + 1) 0 ++ tl)), .sh (.int p), .sh (.int (a % d)), .no, .no, rfl⟩
      generalize I (List.replicate (p + 1) 0 ++ tl) = A
      simp
      unfold b2_l_due
      simp only [T, I] at g1 g2 g3
      have hf : (a % d == 0) = false := by simpa using h0
      simp [I, T, g1, g2, g3, modD_int hd, neD_ok, eqv_int, hf]
theorem due_ok {n : Nat} {sq : List (List Int)} (S : Sq n sq) (hn : n ≤ 100) (line : List Int) (hl : line.length = n) (hb : ∀ x ∈ line, Bd 1000 x) :
    f_l_due [.ol (sqD sq), .sh (T line)] = .ok (optS (wsF sq n line), [.ol (sqD sq), .sh (T line)]) := by
  obtain ⟨o, ho, hm⟩ := due_loop S hn (.sh (T line)) n line [] 1000 .no .no (by omega) hl hb (by omega) (by simp)
  unfold f_l_due
  rw [run_eq]
  have z : ((line.length : Int)) = (n : Int) := by rw [hl]
  have rp : mulD (.list [.int 0]) (.int (n : Int)) = some (.ol (I (List.replicate n 0))) := by
    rw [mulD_rep ⟨by omega, by omega, by simp; omega⟩]
    simp [I]
  simp only [T, I, List.append_nil] at ho rp
  simp [T, z, rp, show (n : Int) - 1 < 4611686018427387904 by omega, show -4611686018427387904 ≤ (n : Int) - 1 by omega, show ((n : Int) - 1 - -1).toNat = n by omega]
  simp at ho
  rw [ho]
  cases hw : wsF sq n line with
  | none =>
    rw [hw] at hm
    obtain ⟨s2, s3, s4, s5, s6, s7, e⟩ := hm
    subst e
    simp [optS, backArgs_eq, List.range_succ]
  | some ms =>
    rw [hw] at hm
    obtain ⟨s2, s4, s5, s6, s7, e⟩ := hm
    subst e
    simp [optS, backArgs_eq, List.range_succ]
theorem lay_ints (ms : List Int) : Lay 1 (.list (I ms)) := .list (layInts ms)
theorem lay_T (ms : List Int) : Lay 1 (T ms) := .tuple (layInts ms)
theorem lay_sq (sq : List (List Int)) : Lay 2 (.list (sqD sq)) := .list fun d h => by
  obtain ⟨r, _, rfl⟩ := List.mem_map.mp h
  exact lay_T r
theorem is_some (ms : List Int) : f_l_is [.ol (I ms), .ol (I ms)] = .ok (.sh (.bool true), [.ol (I ms), .ol (I ms)]) := by
  have hc := comp_none (tg := .nm 2) (ft := t1_l_is) (fe := e2_l_is) (own := [2]) (E := [.no, .ol (I ms), .no]) (I ms) [] fun d hd => by
    obtain ⟨i, _, rfl⟩ := List.mem_map.mp hd
    refine ⟨_, [.no, .ol (I ms), .sh (.int i)], rfl, ?_, rfl⟩
    unfold t1_l_is
    simp
  have h1 := (lay_ints ms).shaped
  have h2 := (lay_ints ms).refl
  unfold f_l_is
  rw [run_eq]
  generalize I ms = A at hc h1 h2 ⊢
  simp [neD_ok h1 h1, h2, hc, eqD_ok, eqv_int, backArgs_eq, List.range_succ]
theorem is_opt (o : Option (List Int)) : f_l_is [optS o, optS o] = .ok (.sh (.bool true), [optS o, optS o]) := by
  cases o with
  | some ms => exact is_some ms
  | none =>
    unfold f_l_is optS
    rw [run_eq]
    simp [backArgs_eq, List.range_succ]
/-! sums of rows -/
def E (sq : List (List Int)) (k j : Nat) : Int := (sq[k]?.getD [])[j]?.getD 0
def M (ms : List Int) (k : Nat) : Int := ms[k]?.getD 0
def Su (sq : List (List Int)) (ms : List Int) (p j : Nat) : Int := ((List.range p).map fun k => M ms k * E sq k j).sum
theorem Su_succ (sq : List (List Int)) (ms : List Int) (p j : Nat) : Su sq ms (p + 1) j = Su sq ms p j + M ms p * E sq p j := by
  unfold Su
  rw [List.range_succ, List.map_append, List.sum_append]
  simp
theorem Su_zero {n : Nat} {sq : List (List Int)} (S : Sq n sq) (ms : List Int) (j : Nat) : ∀ p, p ≤ j → j < n → Su sq ms p j = 0
  | 0, _, _ => rfl
  | p + 1, h, hj => by
    rw [Su_succ, Su_zero S ms j p (by omega) hj]
    have hp : p < sq.length := by rw [S.len]; omega
    have er : sq[p]? = some sq[p] := List.getElem?_eq_getElem hp
    obtain ⟨rl, _, _, tri⟩ := S.row p _ er
    have ex : sq[p][j]? = some sq[p][j] := List.getElem?_eq_getElem (by omega)
    have := tri j _ ex (by omega)
    have e : E sq p j = 0 := by
      unfold E
      rw [er, Option.getD_some, ex, Option.getD_some, this]
    rw [e]; simp
theorem ws_sum {n : Nat} {sq : List (List Int)} (S : Sq n sq) (ms : List Int) (hm : ms.length = n) : ∀ p, p ≤ n → wsF sq p ((List.range n).map (Su sq ms p)) = some (ms.take p)
  | 0, _ => rfl
  | p + 1, hp => by
    have hpr : p < sq.length := by rw [S.len]; omega
    have er : sq[p]? = some sq[p] := List.getElem?_eq_getElem hpr
    obtain ⟨rl, _, ⟨d, ed, hd⟩, _⟩ := S.row p _ er
    have eE : E sq p p = d := by unfold E; rw [er, Option.getD_some, ed, Option.getD_some]
    have em : ms[p]? = some ms[p] := List.getElem?_eq_getElem (by omega)
    have eM : M ms p = ms[p] := by unfold M; rw [em, Option.getD_some]
    have ea : ((List.range n).map (Su sq ms (p + 1)))[p]? = some (ms[p] * d) := by
      rw [List.getElem?_map, List.getElem?_range (by omega)]
      simp [Su_succ, Su_zero S ms p p (Nat.le_refl _) (by omega), eE, eM]
    rw [wsF_succ er ea ed, if_pos (Int.mul_emod_left _ _), Int.mul_fdiv_cancel _ (by omega)]
    have el : List.zipWith (fun x y => x - ms[p] * y) ((List.range n).map (Su sq ms (p + 1))) sq[p] = (List.range n).map (Su sq ms p) := by
      apply List.ext_getElem
      · simp [rl]
      · intro i h1 h2
        simp at h2
        simp only [List.getElem_zipWith, List.getElem_map, List.getElem_range, Su_succ]
        have : E sq p i = sq[p][i] := by unfold E; rw [er, Option.getD_some, List.getElem?_eq_getElem (by omega), Option.getD_some]
        rw [this, eM]
        omega
    rw [el, ws_sum S ms hm p (by omega)]
    show some (ms.take p ++ [ms[p]]) = _
    rw [List.take_succ, em]
    rfl
theorem E_at {n : Nat} {sq : List (List Int)} (S : Sq n sq) {k j : Nat} (hk : k < n) (hj : j < n) : ∃ r, sq[k]? = some r ∧ r[j]? = some (E sq k j) ∧ Bd 101 (E sq k j) := by
  have hpr : k < sq.length := by rw [S.len]; omega
  have er : sq[k]? = some sq[k] := List.getElem?_eq_getElem hpr
  obtain ⟨rl, rb, _, _⟩ := S.row k _ er
  have e : E sq k j = sq[k][j] := by unfold E; rw [er, Option.getD_some, List.getElem?_eq_getElem (by omega), Option.getD_some]
  refine ⟨_, er, ?_, ?_⟩
  · rw [e]; exact List.getElem?_eq_getElem (by omega)
  · rw [e]; exact rb _ (List.getElem_mem _)
theorem M_at {n : Nat} {ms : List Int} (hm : ms.length = n) (hb : ∀ m ∈ ms, Bd 140 m) {k : Nat} (hk : k < n) : ms[k]? = some (M ms k) ∧ Bd 140 (M ms k) := by
  have e : ms[k]? = some ms[k] := List.getElem?_eq_getElem (by omega)
  have e2 : M ms k = ms[k] := by unfold M; rw [e, Option.getD_some]
  exact ⟨by rw [e, e2], by rw [e2]; exact hb _ (List.getElem_mem _)⟩
theorem Su_bd {n : Nat} {sq : List (List Int)} (S : Sq n sq) {ms : List Int} (hm : ms.length = n) (hb : ∀ m ∈ ms, Bd 140 m) (hn : n ≤ 100) {j : Nat} (hj : j < n) : Bd 400 (Su sq ms n j) := by
  unfold Su
  refine (Bd.sum (k := 241) _ fun x hx => ?_).mono (by simp; omega)
  obtain ⟨k, hk, rfl⟩ := List.mem_map.mp hx
  have hk := List.mem_range.mp hk
  obtain ⟨_, _, _, b1⟩ := E_at S hk hj
  exact (M_at hm hb hk).2.mul b1
theorem inner_comp {n : Nat} {sq : List (List Int)} (S : Sq n sq) {ms : List Int} (hm : ms.length = n) (hb : ∀ m ∈ ms, Bd 140 m) (hn : n ≤ 100) {j : Nat} (hj : j < n) (a2 : Sl) :
    compF (.nm 4) fYes e1_l_summed [4] (rngD 0 n) [] [.ol (sqD sq), .ol (I ms), a2, .sh (.int j), .no] = .ok (I ((List.range n).map fun k => M ms k * E sq k j), [.ol (sqD sq), .ol (I ms), a2, .sh (.int j), .no]) := by
  have hc := comp_map (tg := .nm 4) (ft := fYes) (fe := e1_l_summed) (own := [4]) (E := [.ol (sqD sq), .ol (I ms), a2, .sh (.int j), .no])
    (fun d => match d with | .int k => .int (M ms k.toNat * E sq k.toNat j) | d => d) (rngD 0 n) [] (by simp [rngD]; omega) ?_
  · rw [hc, List.nil_append]
    congr 2
    unfold rngD I
    rw [List.map_map, List.map_map]
    apply List.map_congr_left
    intro k _
    simp
  · intro d hd
    unfold rngD at hd
    obtain ⟨k, hk, rfl⟩ := List.mem_map.mp hd
    have hk := List.mem_range.mp hk
    obtain ⟨r, g1, g2, b1⟩ := E_at S hk hj
    obtain ⟨g3, b3⟩ := M_at hm hb hk
    have q1 : atI (sqD sq) (k : Int) = some (T r) := at_nat (by rw [List.getElem?_map, g1]; rfl)
    have q2 : atI (I r) (j : Int) = some (.int (E sq k j)) := at_nat (by rw [List.getElem?_map, g2]; rfl)
    have q3 : atI (I ms) (k : Int) = some (.int (M ms k)) := at_nat (by rw [List.getElem?_map, g3]; rfl)
    have mo : mulOk (M ms k) (E sq k j) = true := b3.mOk b1 (by omega)
    refine ⟨_, .sh (.int (M ms k * E sq k j)), [.ol (sqD sq), .ol (I ms), a2, .sh (.int j), .sh (.int (0 + (k : Int)))], rfl, rfl, ?_, _, by simp; rfl, rfl⟩
    unfold e1_l_summed
    generalize sqD sq = A at q1 ⊢
    generalize I ms = B at q3 ⊢
    simp [q1, q2, q3, mulD_int mo]
theorem summed_ok {n : Nat} {sq : List (List Int)} (S : Sq n sq) {ms : List Int} (hm : ms.length = n) (hb : ∀ m ∈ ms, Bd 140 m) (hn : n ≤ 100) :
    f_l_summed [.ol (sqD sq), .ol (I ms)] = .ok (.sh (T ((List.range n).map (Su sq ms n))), [.ol (sqD sq), .ol (I ms)]) := by
  have hc := comp_map (tg := .nm 3) (ft := fYes) (fe := e2_l_summed) (own := [3]) (E := [.ol (sqD sq), .ol (I ms), .sh (.int n), .no, .no])
    (fun d => match d with | .int j => .int (Su sq ms n j.toNat) | d => d) (rngD 0 n) [] (by simp [rngD]; omega) ?_
  · have z : (((sqD sq).length : Int)) = (n : Int) := by simp [S.len]
    have e2 : List.map (fun d => match d with | .int j => PyData.int (Su sq ms n j.toNat) | d => d) (rngD 0 n) = I ((List.range n).map (Su sq ms n)) := by
      unfold rngD I
      rw [List.map_map, List.map_map]
      apply List.map_congr_left
      intro k _
      simp
    rw [e2] at hc
    unfold f_l_summed
    rw [run_eq]
    generalize sqD sq = A at hc z ⊢
    generalize I ms = B at hc ⊢
    simp [z, show (n : Int) < 4611686018427387904 by omega, show -4611686018427387904 ≤ (n : Int) by omega]
    rw [hc]
    simp [backArgs_eq, List.range_succ]
  · intro d hd
    unfold rngD at hd
    obtain ⟨j, hj, rfl⟩ := List.mem_map.mp hd
    have hj := List.mem_range.mp hj
    have ic := inner_comp S hm hb hn hj (.sh (.int n))
    refine ⟨_, .sh (.int (Su sq ms n j)), [.ol (sqD sq), .ol (I ms), .sh (.int n), .sh (.int j), .no], rfl, rfl, ?_, _, by simp; rfl, rfl⟩
    unfold e2_l_summed Su
    generalize (List.range n).map (fun k => M ms k * E sq k j) = zs at ic ⊢
    generalize sqD sq = A at ic ⊢
    generalize hB : I ms = B at ic ⊢
    simp [show (n : Int) < 4611686018427387904 by omega, show -4611686018427387904 ≤ (n : Int) by omega]
    rw [ic]
    simp [I]
theorem take_big {t : Int} (h : 0 < t) (hb : Bd 100 t) (x : Int) : 0 ≤ x % t ∧ x % t < t := ⟨Int.emod_nonneg _ (by omega), Int.emod_lt_of_pos _ h⟩
/-- the great number of a row -/
theorem great_at (x0 x1 : Int) (h0 : 0 ≤ x0 ∧ x0 < 715827883) (t30 : Int) (ht : t30 = 10 ^ 30) (g0 g1 g2 : Int) (e0 : g0 = 1 + x0.fdiv 5 % 9) (e1 : g1 = 1 + x1 % 999999) (e2 : g2 = 1 + x1 ^ 3 * x0 % t30) :
    ∃ g : Int, atI [PyData.int g0, PyData.int g1, PyData.int g2, PyData.int 1, PyData.int 12] (x0 % 5) = some (.int g) ∧ 0 < g ∧ Bd 101 g := by
  have hx : x0 % 5 = 0 ∨ x0 % 5 = 1 ∨ x0 % 5 = 2 ∨ x0 % 5 = 3 ∨ x0 % 5 = 4 := by omega
  have p30 : 0 < t30 := by rw [ht]; decide
  have b30 : t30 < 2 ^ 100 := by rw [ht]; decide
  have m2 := Int.emod_nonneg (x1 ^ 3 * x0) (show t30 ≠ 0 by omega)
  have m3 := Int.emod_lt_of_pos (x1 ^ 3 * x0) p30
  have c100 : (2 : Int) ^ 100 = ((2 ^ 100 : Nat) : Int) := by norm_cast
  have k2 : 0 < g2 ∧ Bd 101 g2 := by
    refine ⟨by omega, ?_⟩
    unfold Bd
    have : (2 : Nat) ^ 101 = 2 * 2 ^ 100 := by decide
    rw [c100] at b30
    generalize (2 : Nat) ^ 100 = z at *
    omega
  rcases hx with h | h | h | h | h <;> rw [h]
  · exact ⟨g0, rfl, by omega, Bd.range (m := 100) (by omega) (by omega)⟩
  · exact ⟨g1, rfl, by omega, Bd.range (m := 1000000) (by omega) (by omega)⟩
  · exact ⟨g2, rfl, k2.1, k2.2⟩
  · exact ⟨1, rfl, by decide, .lit⟩
  · exact ⟨12, rfl, by decide, .lit⟩
/-- the square under making: the first rows of one of n lines -/
structure Part (n i : Nat) (sq : List (List Int)) : Prop where
  len : sq.length = i
  row : ∀ (k : Nat) (r : List Int), sq[k]? = some r → r.length = n ∧ (∀ x ∈ r, Bd 101 x) ∧ (∃ d, r[k]? = some d ∧ 0 < d) ∧ ∀ (j : Nat) (x : Int), r[j]? = some x → k < j → x = 0
theorem line_comp {n i : Nat} {sq : List (List Int)} (P : Part n i sq) (hi : i < n) (hn : n ≤ 100) (xs : List Int) (hxl : xs.length = n + 2) (hx : ∀ x ∈ xs, 0 ≤ x ∧ x < 715827883) (a0 a1 a3 a5 a6 a7 : Sl) :
    ∃ vs : List Int, compF (.nm 8) fYes e1_l_square [8] (rngD 0 i) [] [a0, a1, .ol (sqD sq), a3, .ol (I xs), a5, a6, a7, .no] = .ok (I vs, [a0, a1, .ol (sqD sq), a3, .ol (I xs), a5, a6, a7, .no]) ∧ vs.length = i ∧ ∀ v ∈ vs, Bd 101 v := by
  refine ⟨(List.range i).map fun j => (xs[2 + j]?.getD 0) ^ 4 % E sq j j, ?_, by simp, ?_⟩
  · have hc := comp_map (tg := .nm 8) (ft := fYes) (fe := e1_l_square) (own := [8]) (E := [a0, a1, .ol (sqD sq), a3, .ol (I xs), a5, a6, a7, .no])
      (fun d => match d with | .int j => .int ((xs[2 + j.toNat]?.getD 0) ^ 4 % E sq j.toNat j.toNat) | d => d) (rngD 0 i) [] (by simp [rngD]; omega) ?_
    · rw [hc, List.nil_append]
      congr 2
      unfold rngD I
      rw [List.map_map, List.map_map]
      apply List.map_congr_left
      intro k _
      simp
    · intro d hd
      unfold rngD at hd
      obtain ⟨j, hj, rfl⟩ := List.mem_map.mp hd
      have hj := List.mem_range.mp hj
      have lj : j < sq.length := by rw [P.len]; omega
      have er : sq[j]? = some sq[j] := List.getElem?_eq_getElem lj
      obtain ⟨rl, rb, ⟨d, ed, hd⟩, _⟩ := P.row j _ er
      have eE : E sq j j = d := by unfold E; rw [er, Option.getD_some, ed, Option.getD_some]
      have ex : xs[2 + j]? = some xs[2 + j] := List.getElem?_eq_getElem (by omega)
      have hx2 := hx _ (List.getElem_mem (show 2 + j < xs.length by omega))
      have q1 : atI (sqD sq) (j : Int) = some (T sq[j]) := at_nat (by rw [List.getElem?_map, er]; rfl)
      have q2 : atI (I sq[j]) (j : Int) = some (.int d) := at_nat (by rw [List.getElem?_map, ed]; rfl)
      have q3 : atI (I xs) (2 + (j : Int)) = some (.int xs[2 + j]) := by
        rw [show (2 : Int) + j = ((2 + j : Nat) : Int) by omega]
        exact at_nat (by rw [List.getElem?_map, ex]; rfl)
      have pw : powD (.int xs[2 + j]) (.int 4) = some (.sh (.int (xs[2 + j] ^ 4))) := powD_int (by omega)
      refine ⟨_, .sh (.int (xs[2 + j] ^ 4 % d)), [a0, a1, .ol (sqD sq), a3, .ol (I xs), a5, a6, a7, .sh (.int (0 + (j : Int)))], rfl, rfl, ?_, _, by simp [ex, eE]; rfl, rfl⟩
      unfold e1_l_square
      generalize sqD sq = A at q1 ⊢
      generalize I xs = B at q3 ⊢
      simp [q1, q2, q3, pw, modD_int hd]
  · intro v hv
    obtain ⟨j, hj, rfl⟩ := List.mem_map.mp hv
    have hj := List.mem_range.mp hj
    have lj : j < sq.length := by rw [P.len]; omega
    have er : sq[j]? = some sq[j] := List.getElem?_eq_getElem lj
    obtain ⟨rl, rb, ⟨d, ed, hd⟩, _⟩ := P.row j _ er
    have eE : E sq j j = d := by unfold E; rw [er, Option.getD_some, ed, Option.getD_some]
    rw [eE]
    exact Bd.mod (rb d (List.mem_of_getElem? ed)) hd
theorem part_next {n i : Nat} {sq : List (List Int)} (P : Part n i sq) (hi : i < n) {vs : List Int} {g : Int} (hv : vs.length = i) (hb : ∀ v ∈ vs, Bd 101 v) (hg : 0 < g) (hgb : Bd 101 g) :
    Part n (i + 1) (sq ++ [vs ++ [g] ++ List.replicate (n - i - 1) 0]) := by
  refine ⟨by simp [P.len], ?_⟩
  intro k r hr
  by_cases hk : k < i
  · rw [List.getElem?_append_left (by rw [P.len]; exact hk)] at hr
    exact P.row k r hr
  · have hk2 : k = i := by
      have := (List.getElem?_eq_some_iff.mp hr).1
      simp [P.len] at this
      omega
    subst hk2
    rw [List.getElem?_append_right (by rw [P.len]; exact Nat.le_refl _), P.len] at hr
    simp at hr
    subst hr
    refine ⟨by simp [hv]; omega, ?_, ⟨g, ?_, hg⟩, ?_⟩
    · intro x hx
      simp at hx
      rcases hx with hx | rfl | ⟨_, rfl⟩
      · exact hb x hx
      · exact hgb
      · exact .zero
    · rw [List.getElem?_append_right (by omega), hv]; simp
    · intro j x hx hj
      rw [List.getElem?_append_right (by omega), hv] at hx
      obtain ⟨m, hm⟩ : ∃ m, j - k = m + 1 := ⟨j - k - 1, by omega⟩
      rw [hm, List.getElem?_cons_succ] at hx
      exact (List.mem_replicate.mp (List.mem_of_getElem? hx)).2
theorem square_ok (ns : List Int) (n : Nat) (hn : n ≤ 100) : ∃ sq, f_l_square [.sc ns, .sh (.int n)] = .ok (.ol (sqD sq), [.sc ns, .sh (.int n)]) ∧ Sq n sq := by
  obtain ⟨e', q, sq, P, s3, s4, s5, s6, s7, rfl⟩ := loop_inv (tg := .nm 3) (b := b2_l_square) (fun i e => ∃ sq, Part n i sq ∧ ∃ s3 s4 s5 s6 s7, e = [.sc ns, .sh (.int n), .ol (sqD sq), s3, s4, s5, s6, s7, .no]) (rngD 0 n)
    (env := [.sc ns, .sh (.int n), .ol [], .no, .no, .no, .no, .no, .no]) ⟨[], ⟨rfl, fun k r h => by simp at h⟩, _, _, _, _, _, rfl⟩ (by
      rintro i d _ hd ⟨sq, P, s3, s4, s5, s6, s7, rfl⟩
      obtain ⟨hi, rfl⟩ := rng_get hd
      obtain ⟨c, hc⟩ := cell_at ns (1 + i) (by omega)
      obtain ⟨xs, hs, hxl, hx⟩ := stream c i (by omega) (by omega) (n + 2) (by omega)
      match xs, hxl with
      | x0 :: x1 :: rest, hxl =>
      have h0 := hx x0 (by simp)
      have h1 := hx x1 (by simp)
      obtain ⟨t30, ht⟩ : ∃ t : Int, t = 10 ^ 30 := ⟨_, rfl⟩
      have p30 : 0 < t30 := by rw [ht]; decide
      obtain ⟨g0, e0⟩ : ∃ g : Int, g = 1 + x0.fdiv 5 % 9 := ⟨_, rfl⟩
      obtain ⟨g1, e1⟩ : ∃ g : Int, g = 1 + x1 % 999999 := ⟨_, rfl⟩
      obtain ⟨g2, e2⟩ : ∃ g : Int, g = 1 + x1 ^ 3 * x0 % t30 := ⟨_, rfl⟩
      obtain ⟨g, eg, pg, bg⟩ := great_at x0 x1 h0 t30 ht g0 g1 g2 e0 e1 e2
      have d5 : divOk x0 5 = true := divOk_small (by decide) (by decide)
      have pw : powD (.int x1) (.int 3) = some (.sh (.int (x1 ^ 3))) := powD_int (by omega)
      have p10 : powD (.int 10) (.int 30) = some (.sh (.int t30)) := by rw [ht]; exact powD_int (by decide)
      have b1 : Bd 90 (x1 ^ 3) := (Bd.range (k := 30) (m := 715827883) (by omega) (by omega)).pow 3 (by decide)
      have m3 : mulOk (x1 ^ 3) x0 = true := b1.mOk (Bd.range (k := 30) (m := 715827883) (by omega) (by omega)) (by omega)
      have a0 : atI (I (x0 :: x1 :: rest)) 0 = some (.int x0) := at_nat (n := 0) rfl
      have a1 : atI (I (x0 :: x1 :: rest)) 1 = some (.int x1) := at_nat (n := 1) rfl
      obtain ⟨vs, lc, vl, vb⟩ := line_comp P hi hn (x0 :: x1 :: rest) hxl hx (.sc ns) (.sh (.int n)) (.sh (.int i)) (.ol [.int g0, .int g1, .int g2, .int 1, .int 12]) (.sh (.int g)) s7
      have rp : mulD (.list [.int 0]) (.int ((n : Int) - i - 1)) = some (.ol (I (List.replicate (n - i - 1) 0))) := by
        rw [mulD_rep ⟨by omega, by omega, by simp; omega⟩]
        rw [show ((n : Int) - i - 1).toNat = n - i - 1 by omega]
        simp [I]
      have hs' : f_l_stream [.sh (.int c), .sh (.int i), .sh (.int ((n : Int) + 2))] = .ok (.ol (I (x0 :: x1 :: rest)), [.sh (.int c), .sh (.int i), .sh (.int ((n : Int) + 2))]) := by simpa using hs
      have fin : sqD sq ++ [PyData.tuple (I vs ++ PyData.int g :: I (List.replicate (n - i - 1) 0))] = sqD (sq ++ [vs ++ [g] ++ List.replicate (n - i - 1) 0]) := by simp [I]
      have l1 : (I vs).length = i := by simp [vl]
      have l2 : (I (List.replicate (n - i - 1) 0)).length = n - i - 1 := by simp
      have l3 : (sqD sq).length = i := by simp [P.len]
      refine ⟨_, [.sc ns, .sh (.int n), .ol (sqD (sq ++ [vs ++ [g] ++ List.replicate (n - i - 1) 0])), .sh (.int i), .ol (I (x0 :: x1 :: rest)), .ol [.int g0, .int g1, .int g2, .int 1, .int 12], .sh (.int g), .ol (I vs), .no], rfl, .inl ?_, _, part_next P hi vl vb pg bg, _, _, _, _, _, rfl⟩
      unfold b2_l_square
      rw [← fin]
      generalize I (x0 :: x1 :: rest) = X at *
      generalize sqD sq = A at *
      generalize I vs = B at *
      generalize I (List.replicate (n - i - 1) 0) = Z at *
      simp [hc, hs', a0, a1, divD_int d5, modD_int, pw, p10, p30, mulD_int m3, ← e0, ← e1, ← e2, eg]
      simp [show (i : Int) < 4611686018427387904 by omega, show -4611686018427387904 ≤ (i : Int) by omega]
      rw [lc]
      simp [rp, l1, l2, l3, show i + 1 ≤ 16777216 by omega, show i + (n - i - 1 + 1) ≤ 16777216 by omega, show i + 1 + (n - i - 1) ≤ 16777216 by omega, show i < 16777216 by omega])
  rw [rng_len] at P
  refine ⟨sq, ?_, P.len, P.row⟩
  unfold f_l_square
  rw [run_eq]
  simp [show (n : Int) < 4611686018427387904 by omega, show -4611686018427387904 ≤ (n : Int) by omega]
  rw [q]
  simp [backArgs_eq, List.range_succ]
theorem mult_at (x f far : Int) (hx : 0 ≤ x ∧ x < 715827883) (hf : Bd 140 far) : ∃ m : Int, atI [PyData.int (x % 9 - 4), PyData.int (x % 1999999999 - 999999999), PyData.int far] (f % 3) = some (.int m) ∧ Bd 140 m := by
  have h : f % 3 = 0 ∨ f % 3 = 1 ∨ f % 3 = 2 := by omega
  rcases h with h | h | h <;> rw [h]
  · exact ⟨_, rfl, Bd.range (m := 100) (by omega) (by omega)⟩
  · exact ⟨_, rfl, Bd.range (m := 2000000000) (by omega) (by omega)⟩
  · exact ⟨_, rfl, hf⟩
theorem mult_loop (a0 : Sl) (c : Int) (a2 : Sl) (A : List D) (xs : List Int) (hl : xs.length = 9) (hx : ∀ x ∈ xs, 0 ≤ x ∧ x < 715827883) (n : Nat) (hn : n ≤ 7) :
    ∃ (ms : List Int) (s6 s7 : Sl), loopF (.nm 6) b1_law (rngD 0 n) [a0, .sh (.int c), a2, .ol A, .ol (I xs), .ol [], .no, .no, .no, .no, .no, .no, .no] = .ok (.nx [a0, .sh (.int c), a2, .ol A, .ol (I xs), .ol (I ms), s6, s7, .no, .no, .no, .no, .no]) ∧ ms.length = n ∧ ∀ m ∈ ms, Bd 140 m := by
  obtain ⟨e', q, ms, s6, s7, rfl, h1, h2⟩ := loop_inv (tg := .nm 6) (b := b1_law) (fun i e => ∃ (ms : List Int) (s6 s7 : Sl), e = [a0, .sh (.int c), a2, .ol A, .ol (I xs), .ol (I ms), s6, s7, .no, .no, .no, .no, .no] ∧ ms.length = i ∧ ∀ m ∈ ms, Bd 140 m) (rngD 0 n)
    (env := [a0, .sh (.int c), a2, .ol A, .ol (I xs), .ol [], .no, .no, .no, .no, .no, .no, .no]) ⟨[], _, _, rfl, rfl, by simp⟩ (by
      rintro i d _ hd ⟨ms, s6, s7, rfl, hml, hmb⟩
      obtain ⟨hi, rfl⟩ := rng_get hd
      have ex : xs[i]? = some xs[i] := List.getElem?_eq_getElem (by omega)
      have hxi := hx _ (List.getElem_mem (show i < xs.length by omega))
      obtain ⟨x, hxx⟩ : ∃ x : Int, x = xs[i] := ⟨_, rfl⟩
      rw [← hxx] at ex hxi
      have g : atI (I xs) (i : Int) = some (.int x) := at_nat (by rw [List.getElem?_map, ex]; rfl)
      obtain ⟨t40, h40⟩ : ∃ t : Int, t = 10 ^ 40 := ⟨_, rfl⟩
      obtain ⟨t39, h39⟩ : ∃ t : Int, t = 10 ^ 39 := ⟨_, rfl⟩
      have p40 : 0 < t40 := by rw [h40]; decide
      have b40 : Bd 134 t40 := by rw [h40]; exact Bd.lit (by decide)
      have b39 : Bd 134 t39 := by rw [h39]; exact Bd.lit (by decide)
      have q40 : powD (.int 10) (.int 40) = some (.sh (.int t40)) := by rw [h40]; exact powD_int (by decide)
      have q39 : powD (.int 10) (.int 39) = some (.sh (.int t39)) := by rw [h39]; exact powD_int (by decide)
      have pw : powD (.int x) (.int 5) = some (.sh (.int (x ^ 5))) := powD_int (by omega)
      have d7 : divOk c 7 = true := divOk_small (by decide) (by decide)
      obtain ⟨m, em, bm⟩ := mult_at x (c.fdiv 7) (x ^ 5 % t40 - t39) hxi (((Bd.mod b40 p40).sub b39 (k := 135) (by decide) (by decide)).mono (by decide))
      have fin : I ms ++ [PyData.int m] = I (ms ++ [m]) := by simp
      have l1 : (I ms).length = i := by simp [hml]
      refine ⟨_, [a0, .sh (.int c), a2, .ol A, .ol (I xs), .ol (I (ms ++ [m])), .sh (.int i), .sh (.int (x ^ 5 % t40 - t39)), .no, .no, .no, .no, .no], rfl, .inl ?_, ms ++ [m], _, _, rfl, by simp [hml], ?_⟩
      · unfold b1_law
        rw [← fin]
        generalize I xs = X at *
        generalize I ms = B at *
        simp [g, pw, q40, q39, modD_int, p40, divD_int d7, em, l1, show i < 16777216 by omega]
      · intro z hz
        rcases List.mem_append.mp hz with h | h
        · exact hmb z h
        · rw [List.mem_singleton] at h; subst h; exact bm)
  rw [rng_len] at h1
  exact ⟨ms, s6, s7, q, h1, h2⟩
theorem Su_none (sq : List (List Int)) (n j : Nat) : ∀ p, Su sq (List.replicate n 0) p j = 0
  | 0 => rfl
  | p + 1 => by
    rw [Su_succ, Su_none sq n j p]
    have : M (List.replicate n 0) p = 0 := by
      unfold M
      rw [List.getElem?_replicate]
      split <;> rfl
    rw [this]; simp
theorem step_at (f : Int) (t : Int) (h : t = 1000000) : ∃ z : Int, atI [PyData.int 2, PyData.int 12, PyData.int t] (f % 3) = some (.int z) ∧ 0 < z ∧ z ≤ 1000000 := by
  have hh : f % 3 = 0 ∨ f % 3 = 1 ∨ f % 3 = 2 := by omega
  rcases hh with hh | hh | hh <;> rw [hh]
  · exact ⟨2, rfl, by omega, by omega⟩
  · exact ⟨12, rfl, by omega, by omega⟩
  · exact ⟨t, rfl, by omega, by omega⟩
theorem law_true (ns : List Int) (_ : ns.length ≤ 63) : ∃ as, f_law [.sc ns] = .ok (.sh (.bool true), as) := by
  obtain ⟨c, hc⟩ := cell_at ns 0 (by omega)
  obtain ⟨c9, hc9⟩ := cell_at ns 9 (by omega)
  obtain ⟨n, hn⟩ : ∃ n : Nat, 1 + c % 7 = n := ⟨(1 + c % 7).toNat, by omega⟩
  have n1 : 1 ≤ n ∧ n ≤ 7 := by omega
  obtain ⟨sq, hs, S⟩ := square_ok ns n (by omega)
  obtain ⟨xs, hst, hxl, hx⟩ := stream c9 90 (by omega) (by omega) 9 (by omega)
  obtain ⟨ms, s6, s7, lp, hml, hmb⟩ := mult_loop (.sc ns) c (.sh (.int n)) (sqD sq) xs hxl hx n (by omega)
  have su := summed_ok S hml hmb (by omega)
  obtain ⟨line, hline⟩ : ∃ line : List Int, line = (List.range n).map (Su sq ms n) := ⟨_, rfl⟩
  rw [← hline] at su
  have ll : line.length = n := by rw [hline]; simp
  have lb : ∀ x ∈ line, Bd 400 x := by
    intro x h
    rw [hline] at h
    obtain ⟨j, hj, rfl⟩ := List.mem_map.mp h
    exact Su_bd S hml hmb (by omega) (List.mem_range.mp hj)
  have w1 := ws_ok S (by omega) line ll fun x h => (lb x h).mono (by decide)
  have v1 : wsF sq n line = some ms := by
    rw [hline, ws_sum S ms hml n (Nat.le_refl _), ← hml, List.take_length]
  rw [v1] at w1
  have i1 := is_some ms
  -- the place and the number there
  have e7 : xs[7]? = some xs[7] := List.getElem?_eq_getElem (by omega)
  have e8 : xs[8]? = some xs[8] := List.getElem?_eq_getElem (by omega)
  have h7 := hx _ (List.getElem_mem (show 7 < xs.length by omega))
  have h8 := hx _ (List.getElem_mem (show 8 < xs.length by omega))
  obtain ⟨x7, hx7⟩ : ∃ x : Int, x = xs[7] := ⟨_, rfl⟩
  obtain ⟨x8, hx8⟩ : ∃ x : Int, x = xs[8] := ⟨_, rfl⟩
  rw [← hx7] at e7 h7
  rw [← hx8] at e8 h8
  have a7 : atI (I xs) 7 = some (.int x7) := at_nat (n := 7) (by rw [List.getElem?_map, e7]; rfl)
  have a8 : atI (I xs) 8 = some (.int x8) := at_nat (n := 8) (by rw [List.getElem?_map, e8]; rfl)
  obtain ⟨p, hp⟩ : ∃ p : Nat, x7 % (n : Int) = p := ⟨(x7 % (n : Int)).toNat, by have := Int.emod_nonneg x7 (show (n : Int) ≠ 0 by omega); omega⟩
  have pn : p < n := by have := Int.emod_lt_of_pos x7 (show 0 < (n : Int) by omega); omega
  have elp : line[p]? = some line[p] := List.getElem?_eq_getElem (by omega)
  have blp := lb _ (List.getElem_mem (show p < line.length by omega))
  obtain ⟨u, hu⟩ : ∃ u : Int, u = line[p] := ⟨_, rfl⟩
  rw [← hu] at elp blp
  have al : atI (I line) (p : Int) = some (.int u) := at_nat (by rw [List.getElem?_map, elp]; rfl)
  have p6 : powD (.int 10) (.int 6) = some (.sh (.int 1000000)) := powD_int (by decide)
  obtain ⟨z, ez, z0, z1⟩ := step_at (x7.fdiv 7) 1000000 rfl
  have d7 : divOk x7 7 = true := divOk_small (by decide) (by decide)
  have c1 : cutG (I line) none (some (p : Int)) = I (line.take p) := by rw [cutG_to]; simp [I]
  have c2 : cutG (I line) (some ((p : Int) + 1)) none = I (line.drop (p + 1)) := by
    rw [show (p : Int) + 1 = ((p + 1 : Nat) : Int) by omega, cutG_from]; simp [I]
  obtain ⟨v, hv⟩ : ∃ v : Int, v = u + 1 + x8 % z := ⟨_, rfl⟩
  have m8 := Int.emod_nonneg x8 (show z ≠ 0 by omega)
  have m9 := Int.emod_lt_of_pos x8 z0
  have bv : Bd 500 v := by
    rw [hv]
    exact (((blp.add (Bd.lit (k := 1)) (k := 401) (by decide) (by decide)).add (Bd.range (k := 30) (m := 1000000) (by omega) (by omega)) (k := 402) (by decide) (by decide))).mono (by decide)
  obtain ⟨other, ho⟩ : ∃ o : List Int, o = line.take p ++ [v] ++ line.drop (p + 1) := ⟨_, rfl⟩
  have ol : other.length = n := by rw [ho]; simp [ll]; omega
  have ob : ∀ x ∈ other, Bd 1000 x := by
    intro x h
    rw [ho] at h
    simp only [List.mem_append, List.mem_singleton] at h
    rcases h with (h | h) | h
    · exact (lb x (List.mem_of_mem_take h)).mono (by decide)
    · rw [h]; exact bv.mono (by decide)
    · exact (lb x (List.mem_of_mem_drop h)).mono (by decide)
  have w2 := ws_ok S (by omega) other ol ob
  have w3 := due_ok S (by omega) other ol ob
  have i2 := is_opt (wsF sq n other)
  -- noughts
  have w4 := ws_ok S (by omega) (List.replicate n 0) (by simp) fun x h => by rw [List.eq_of_mem_replicate h]; exact .zero
  have v4 : wsF sq n (List.replicate n 0) = some (List.replicate n 0) := by
    have := ws_sum S (List.replicate n 0) (by simp) n (Nat.le_refl _)
    have e : (List.range n).map (Su sq (List.replicate n 0) n) = List.replicate n 0 := by
      apply List.ext_getElem
      · simp
      · intro i h1 h2
        simp [Su_none]
    rw [e] at this
    rw [this, List.take_of_length_le (by simp)]
  rw [v4] at w4
  have i4 := is_some (List.replicate n 0)
  have rp : mulD (.list [.int 0]) (.int (n : Int)) = some (.ol (I (List.replicate n 0))) := by
    rw [mulD_rep ⟨by omega, by omega, by simp; omega⟩]
    simp [I]
  have hst' : f_l_stream [.sh (.int c9), .sh (.int 90), .sh (.int 9)] = .ok (.ol (I xs), [.sh (.int c9), .sh (.int 90), .sh (.int 9)]) := hst
  have d1 : divOk c 7 = true := divOk_small (by decide) (by decide)
  have ls := (lay_sq sq).shaped
  have lr := (lay_sq sq).refl
  have fo : I (line.take p) ++ PyData.int v :: I (line.drop (p + 1)) = I other := by rw [ho]; simp [I]
  have t1 : (I (line.take p)).length = p := by simp [ll]; omega
  have t2 : (I (line.drop (p + 1))).length = n - (p + 1) := by simp [ll]
  simp only [optS] at w1 w4
  rw [show T line = .tuple (I line) from rfl] at su w1
  rw [show T other = .tuple (I other) from rfl] at w2 w3
  rw [show T (List.replicate n 0) = .tuple (I (List.replicate n 0)) from rfl] at w4
  have lB : (I ms).length = n := by simp [hml]
  unfold f_law
  rw [run_eq]
  generalize hA : sqD sq = A at *
  generalize hX : I xs = X at *
  generalize hMs : I ms = B at *
  generalize hZ : I (List.replicate n 0) = Z at *
  generalize hL : I line = L at *
  generalize hO : I other = O at *
  generalize hP : I (line.take p) = P1 at *
  generalize hQ : I (line.drop (p + 1)) = P2 at *
  simp [hc, modD_int, hn, hs, hc9, hst', show (n : Int) < 4611686018427387904 by omega, show -4611686018427387904 ≤ (n : Int) by omega]
  rw [lp]
  simp [su, w1, i1, neD_ok ls ls, lr]
  simp [lB, show n < 16777216 by omega, a7, a8, hp, modD_int, show 0 < n by omega, al, p6, divD_int d7, ez, z0, c1, c2, ← hv, t1, t2, show p + 1 + (n - (p + 1)) ≤ 16777216 by omega, show p + 1 ≤ 16777216 by omega, show p + (n - (p + 1) + 1) ≤ 16777216 by omega, fo]
  generalize wsF sq n other = o2 at *
  cases o2 with
  | none =>
    simp only [optS] at w2 w3 i2
    simp [w2, w3, i2, rp, w4, i4, w1, i1]
  | some rs =>
    simp only [optS] at w2 w3 i2
    generalize I rs = R at *
    simp [w2, w3, i2, rp, w4, i4, w1, i1]

def topS (i : Nat) : Stmt := PySem.Challenge.pw_evennotes_k11_whole_sums_told.main.body.getD i (.Pass ⟨0, 0, 0, 0⟩)
structure Zs (mg : Str → Option Value) : Prop where
  zip : mg "zip" = none
  list : mg "list" = none
  reversed : mg "reversed" = none
  range : mg "range" = none
  len : mg "len" = none
  tuple : mg "tuple" = none
  sum : mg "sum" = none
  isinstance : mg "isinstance" = none
  bool : mg "bool" = none
  int : mg "int" = none
abbrev s_blend : Stmt := topS 1
abbrev N_blend : List Str := ["one", "many", "other", "much", "a", "b"]
theorem sc_blend : FnScope ["one", "many", "other", "much", "a", "b"] ["one", "many", "other", "much"] (defScope s_blend) := ⟨rfl, rfl, rfl, by decide +kernel, rfl, by decide +kernel, by decide +kernel⟩
abbrev s_whole_sum : Stmt := topS 2
abbrev N_whole_sum : List Str := ["square", "line", "left", "multiples", "place", "row", "many"]
theorem sc_whole_sum : FnScope ["square", "line", "left", "multiples", "place", "row", "many"] ["square", "line"] (defScope s_whole_sum) := ⟨rfl, rfl, rfl, by decide +kernel, rfl, by decide +kernel, by decide +kernel⟩
abbrev s_l_cell_at : Stmt := topS 4
abbrev N_l_cell_at : List Str := ["_law_script", "_law_k"]
theorem sc_l_cell_at : FnScope ["_law_script", "_law_k"] ["_law_script", "_law_k"] (defScope s_l_cell_at) := ⟨rfl, rfl, rfl, by decide +kernel, rfl, by decide +kernel, by decide +kernel⟩
abbrev s_l_stream : Stmt := topS 5
abbrev N_l_stream : List Str := ["_law_cell", "_law_salt", "_law_many", "_law_number", "_law_found", "_law_k"]
theorem sc_l_stream : FnScope ["_law_cell", "_law_salt", "_law_many", "_law_number", "_law_found", "_law_k"] ["_law_cell", "_law_salt", "_law_many"] (defScope s_l_stream) := ⟨rfl, rfl, rfl, by decide +kernel, rfl, by decide +kernel, by decide +kernel⟩
abbrev s_l_square : Stmt := topS 6
abbrev N_l_square : List Str := ["_law_script", "_law_long", "_law_square_here", "_law_k", "_law_xs", "_law_some", "_law_great", "_law_line", "_law_j"]
theorem sc_l_square : FnScope ["_law_script", "_law_long", "_law_square_here", "_law_k", "_law_xs", "_law_some", "_law_great", "_law_line", "_law_j"] ["_law_script", "_law_long"] (defScope s_l_square) := ⟨rfl, rfl, rfl, by decide +kernel, rfl, by decide +kernel, by decide +kernel⟩
abbrev s_l_summed : Stmt := topS 7
abbrev N_l_summed : List Str := ["_law_square_here", "_law_multiples", "_law_long", "_law_place", "_law_k"]
theorem sc_l_summed : FnScope ["_law_square_here", "_law_multiples", "_law_long", "_law_place", "_law_k"] ["_law_square_here", "_law_multiples"] (defScope s_l_summed) := ⟨rfl, rfl, rfl, by decide +kernel, rfl, by decide +kernel, by decide +kernel⟩
abbrev s_l_due : Stmt := topS 8
abbrev N_l_due : List Str := ["_law_square_here", "_law_line", "_law_left", "_law_found", "_law_place", "_law_rest", "_law_x", "_law_y"]
theorem sc_l_due : FnScope ["_law_square_here", "_law_line", "_law_left", "_law_found", "_law_place", "_law_rest", "_law_x", "_law_y"] ["_law_square_here", "_law_line"] (defScope s_l_due) := ⟨rfl, rfl, rfl, by decide +kernel, rfl, by decide +kernel, by decide +kernel⟩
abbrev s_l_is : Stmt := topS 9
abbrev N_l_is : List Str := ["_law_found", "_law_due_here", "_law_x"]
theorem sc_l_is : FnScope ["_law_found", "_law_due_here", "_law_x"] ["_law_found", "_law_due_here"] (defScope s_l_is) := ⟨rfl, rfl, rfl, by decide +kernel, rfl, by decide +kernel, by decide +kernel⟩
abbrev s_law : Stmt := topS 10
abbrev N_law : List Str := ["_law_script", "_law_first", "_law_long", "_law_square_here", "_law_xs", "_law_multiples", "_law_k", "_law_far", "_law_line", "_law_handed", "_law_found", "_law_at", "_law_other"]
theorem sc_law : FnScope ["_law_script", "_law_first", "_law_long", "_law_square_here", "_law_xs", "_law_multiples", "_law_k", "_law_far", "_law_line", "_law_handed", "_law_found", "_law_at", "_law_other"] ["_law_script"] (defScope s_law) := ⟨rfl, rfl, rfl, by decide +kernel, rfl, by decide +kernel, by decide +kernel⟩
section
variable {P : Program} {w : World} {K : PySem.W.Frag} {mg : Str → Option Value} {base : Heap}
theorem ok_blend {f : Addr} {fd : FuncData} (F : Fun K "blend" "blend" s_blend f fd) (Z : Zs mg)  : FnOk P w K mg base CX0 1 f fd ["one", "many", "other", "much"] (spF K mg 4 f_blend) :=
  have nd := sc_blend.nd
  fn_ok F sc_blend (by decide) fun cdv A outer s H E hr =>
    (ss_one (ss_ret (se_lc (own := [("a", 4), ("b", 5)]) rfl nd (si_zip (by rfl) Z.zip (sa_cons (se_v 0) (sa_cons (se_v 2) sa_nil))) (by exact blkOk_by (N := N_blend) (sc := defScope s_blend) (own := [("a", 4), ("b", 5)]) (by decide +kernel)) (semg_tp (is := [4, 5])) (by decide) (fun _ _ _ _ _ => (pg_tup rfl (pgs_cons (pg_name (i := 4) nd rfl (by first | exact .inl rfl | exact .inr rfl)) (pgs_cons (pg_name (i := 5) nd rfl (by first | exact .inl rfl | exact .inr rfl)) pgs_nil)))) (fun _ _ _ _ _ => sts_nil) (fun _ _ _ _ _ => (se_add (se_mul (se_v 1) (se_v 4)) (se_mul (se_v 3) (se_v 5)))))))
theorem ok_whole_sum {f : Addr} {fd : FuncData} (F : Fun K "whole_sum" "whole_sum" s_whole_sum f fd) (Z : Zs mg) (C_blend : FnF P w K mg base "blend" 4 1 f_blend) : FnOk P w K mg base CX0 2 f fd ["square", "line"] (spF K mg 2 f_whole_sum) :=
  have nd := sc_whole_sum.nd
  fn_ok F sc_whole_sum (by decide) fun cdv A outer s H E hr =>
    (ss_cons (ss_set (i := 2) nd rfl (.inl rfl) (se_tlist Z.list (sa_cons (se_v 1) sa_nil)))
    (ss_cons (ss_set (i := 3) nd rfl (.inl rfl) (se_lst sa_nil))
    (ss_cons (ss_for PassesOwn.never rfl (si_rng3 (by rfl) Z.range (sa_cons (se_sub (se_len Z.len (sa_cons (se_v 0) sa_nil)) se_int) (sa_cons (se_neg se_int) (sa_cons (se_neg se_int) sa_nil)))) (pg_name (i := 4) nd rfl (.inl rfl)) semg_nm
    (ss_cons (ss_set (i := 5) nd rfl (.inl rfl) (se_ix (se_v 0) (se_v 4)))
    (ss_cons (ss_if (st_cmp (op_neD hr.units) so_ne (se_mod (se_ix (se_v 2) (se_v 4)) (se_ix (se_v 5) (se_v 4))) se_int (nomark _))
    (ss_one (ss_ret se_non))
    ss_nil)
    (ss_cons (ss_set (i := 6) nd rfl (.inl rfl) (se_div (se_ix (se_v 2) (se_v 4)) (se_ix (se_v 5) (se_v 4))))
    (ss_cons (ss_expr (se_mut (i := 3) PySem.F.slot_list_append PySem.F.type_list_append mt_append sm_append rfl (by first | exact Or.inl rfl | exact Or.inr (Or.inl rfl) | exact Or.inr (Or.inr rfl)) (sa_cons (se_v 6) sa_nil)))
    (ss_one (ss_set (i := 2) nd rfl (.inl rfl) (se_call C_blend (hr.mono (by decide)) (by rfl) (sa_cons (se_v 2) (sa_cons se_int (sa_cons (se_v 5) (sa_cons (se_neg (se_v 6)) sa_nil)))) (ar_cons (ar_cons (ar_cons (ar_cons ar_nil))))))))))))
    (ss_one (ss_ret (se_lrev rfl (by rfl) Z.list (by rfl) Z.reversed (se_v 3)))))))
theorem ok_l_cell_at {f : Addr} {fd : FuncData} (F : Fun K "_law_cell_at" "_law_cell_at" s_l_cell_at f fd) (Z : Zs mg)  : FnOk P w K mg base CX0 1 f fd ["_law_script", "_law_k"] (spF K mg 2 f_l_cell_at) :=
  have nd := sc_l_cell_at.nd
  fn_ok F sc_l_cell_at (by decide) fun cdv A outer s H E hr =>
    (ss_cons (ss_if (st_cmp op_lt so_cmp (se_v 1) (se_scLen (i := 0) (by rfl) Z.len rfl (by first | exact Or.inl rfl | exact Or.inr (Or.inl rfl) | exact Or.inr (Or.inr rfl))) (nomark _))
    (ss_one (ss_ret (se_scIx (i := 0) rfl (by first | exact Or.inl rfl | exact Or.inr (Or.inl rfl) | exact Or.inr (Or.inr rfl)) (se_v 1))))
    ss_nil)
    (ss_one (ss_ret se_int)))
theorem ok_l_stream {f : Addr} {fd : FuncData} (F : Fun K "_law_stream" "_law_stream" s_l_stream f fd) (Z : Zs mg)  : FnOk P w K mg base CX0 1 f fd ["_law_cell", "_law_salt", "_law_many"] (spF K mg 3 f_l_stream) :=
  have nd := sc_l_stream.nd
  fn_ok F sc_l_stream (by decide) fun cdv A outer s H E hr =>
    (ss_cons (ss_set (i := 3) nd rfl (.inl rfl) (se_mod (se_add (se_add (se_mod (se_v 0) se_int) (se_mul se_int (se_v 1))) se_int) se_int))
    (ss_cons (ss_set (i := 4) nd rfl (.inl rfl) (se_lst sa_nil))
    (ss_cons (ss_for PassesOwn.never rfl (si_rng1 (by rfl) Z.range (sa_cons (se_v 2) sa_nil)) (pg_name (i := 5) nd rfl (.inl rfl)) semg_nm
    (ss_cons (ss_set (i := 3) nd rfl (.inl rfl) (se_mod (se_add (se_add (se_add (se_mul (se_v 3) (se_v 3)) (se_mul se_int (se_v 3))) (se_mul se_int (se_v 5))) (se_v 1)) se_int))
    (ss_one (ss_expr (se_mut (i := 4) PySem.F.slot_list_append PySem.F.type_list_append mt_append sm_append rfl (by first | exact Or.inl rfl | exact Or.inr (Or.inl rfl) | exact Or.inr (Or.inr rfl)) (sa_cons (se_div (se_v 3) se_int) sa_nil))))))
    (ss_one (ss_ret (se_v 4))))))
theorem ok_l_square {f : Addr} {fd : FuncData} (F : Fun K "_law_square" "_law_square" s_l_square f fd) (Z : Zs mg) (C_l_stream : FnF P w K mg base "_law_stream" 3 1 f_l_stream) (C_l_cell_at : FnF P w K mg base "_law_cell_at" 2 1 f_l_cell_at) : FnOk P w K mg base CX0 2 f fd ["_law_script", "_law_long"] (spF K mg 2 f_l_square) :=
  have nd := sc_l_square.nd
  fn_ok F sc_l_square (by decide) fun cdv A outer s H E hr =>
    (ss_cons (ss_set (i := 2) nd rfl (.inr rfl) (se_lst sa_nil))
    (ss_cons (ss_for PassesOwn.never rfl (si_rng1 (by rfl) Z.range (sa_cons (se_v 1) sa_nil)) (pg_name (i := 3) nd rfl (.inl rfl)) semg_nm
    (ss_cons (ss_set (i := 4) nd rfl (.inr rfl) (se_call C_l_stream (hr.mono (by decide)) (by rfl) (sa_cons (se_call C_l_cell_at (hr.mono (by decide)) (by rfl) (sa_cons (se_v 0) (sa_cons (se_add se_int (se_v 3)) sa_nil)) (ar_cons (ar_cons ar_nil))) (sa_cons (se_v 3) (sa_cons (se_add (se_v 1) se_int) sa_nil))) (ar_cons (ar_cons (ar_cons ar_nil)))))
    (ss_cons (ss_set (i := 5) nd rfl (.inl rfl) (se_lst (sa_cons (se_add se_int (se_mod (se_div (se_ix (se_v 4) se_int) se_int) se_int)) (sa_cons (se_add se_int (se_mod (se_ix (se_v 4) se_int) se_int)) (sa_cons (se_add se_int (se_mod (se_mul (se_pow (se_ix (se_v 4) se_int) se_int) (se_ix (se_v 4) se_int)) (se_pow se_int se_int))) (sa_cons se_int (sa_cons se_int sa_nil)))))))
    (ss_cons (ss_set (i := 6) nd rfl (.inl rfl) (se_ix (se_v 5) (se_mod (se_ix (se_v 4) se_int) se_int)))
    (ss_cons (ss_setLc (own := [("_law_j", 8)]) (i := 7) rfl nd rfl rfl (sw_true rfl rfl rfl (by decide +kernel)) (si_rng1 (by rfl) Z.range (sa_cons (se_v 3) sa_nil)) (by exact blkOk_by (N := N_l_square) (sc := defScope s_l_square) (own := [("_law_j", 8)]) (by decide +kernel)) semg_nm (by decide) (fun _ _ _ _ _ => (pg_name (i := 8) nd rfl (by first | exact .inl rfl | exact .inr rfl))) (fun _ _ _ _ _ => sts_nil) (fun _ _ _ _ _ => (se_mod (se_pow (se_ix (se_v 4) (se_add se_int (se_v 8))) se_int) (se_ix (se_ix (se_v 2) (se_v 8)) (se_v 8)))))
    (ss_one (ss_expr (se_mut (i := 2) PySem.F.slot_list_append PySem.F.type_list_append mt_append sm_append rfl (by first | exact Or.inl rfl | exact Or.inr (Or.inl rfl) | exact Or.inr (Or.inr rfl)) (sa_cons (se_ttuple Z.tuple (sa_cons (se_add (se_add (se_v 7) (se_lst (sa_cons (se_v 6) sa_nil))) (se_mul (se_lst (sa_cons se_int sa_nil)) (se_sub (se_sub (se_v 1) (se_v 3)) se_int))) sa_nil)) sa_nil)))))))))
    (ss_one (ss_ret (se_v 2)))))
theorem ok_l_summed {f : Addr} {fd : FuncData} (F : Fun K "_law_summed" "_law_summed" s_l_summed f fd) (Z : Zs mg)  : FnOk P w K mg base CX0 1 f fd ["_law_square_here", "_law_multiples"] (spF K mg 2 f_l_summed) :=
  have nd := sc_l_summed.nd
  fn_ok F sc_l_summed (by decide) fun cdv A outer s H E hr =>
    (ss_cons (ss_set (i := 2) nd rfl (.inr rfl) (se_len Z.len (sa_cons (se_v 0) sa_nil)))
    (ss_one (ss_ret (se_ttuple Z.tuple (sa_cons (se_lc (own := [("_law_place", 3)]) rfl nd (si_rng1 (by rfl) Z.range (sa_cons (se_v 2) sa_nil)) (by exact blkOk_by (N := N_l_summed) (sc := defScope s_l_summed) (own := [("_law_place", 3)]) (by decide +kernel)) semg_nm (by decide) (fun _ _ _ _ _ => (pg_name (i := 3) nd rfl (by first | exact .inl rfl | exact .inr rfl))) (fun _ _ _ _ _ => sts_nil) (fun _ _ _ _ _ => (se_sum rfl Z.sum (sa_cons (se_lc (own := [("_law_k", 4)]) rfl nd (si_rng1 (by rfl) Z.range (sa_cons (se_v 2) sa_nil)) (by refine blkOk_in (N := N_l_summed) (sc0 := defScope s_l_summed) (own := [("_law_k", 4)]) rfl ?_; decide +kernel) semg_nm (by decide) (fun _ _ _ _ _ => (pg_name (i := 4) nd rfl (by first | exact .inl rfl | exact .inr rfl))) (fun _ _ _ _ _ => sts_nil) (fun _ _ _ _ _ => (se_mul (se_ix (se_v 1) (se_v 4)) (se_ix (se_ix (se_v 0) (se_v 4)) (se_v 3))))) sa_nil)))) sa_nil)))))
theorem ok_l_due {f : Addr} {fd : FuncData} (F : Fun K "_law_due" "_law_due" s_l_due f fd) (Z : Zs mg)  : FnOk P w K mg base CX0 1 f fd ["_law_square_here", "_law_line"] (spF K mg 2 f_l_due) :=
  have nd := sc_l_due.nd
  fn_ok F sc_l_due (by decide) fun cdv A outer s H E hr =>
    (ss_cons (ss_set (i := 2) nd rfl (.inl rfl) (se_tlist Z.list (sa_cons (se_v 1) sa_nil)))
    (ss_cons (ss_set (i := 3) nd rfl (.inr rfl) (se_mul (se_lst (sa_cons se_int sa_nil)) (se_len Z.len (sa_cons (se_v 1) sa_nil))))
    (ss_cons (ss_for PassesOwn.never rfl (si_rng3 (by rfl) Z.range (sa_cons (se_sub (se_len Z.len (sa_cons (se_v 1) sa_nil)) se_int) (sa_cons (se_neg se_int) (sa_cons (se_neg se_int) sa_nil)))) (pg_name (i := 4) nd rfl (.inr rfl)) semg_nm
    (ss_cons (ss_set (i := 5) nd rfl (.inl rfl) (se_mod (se_ix (se_v 2) (se_v 4)) (se_ix (se_ix (se_v 0) (se_v 4)) (se_v 4))))
    (ss_cons (ss_if (st_cmp (op_neD hr.units) so_ne (se_v 5) se_int (nomark _))
    (ss_one (ss_ret se_non))
    ss_nil)
    (ss_cons (ss_store (i := 3) rfl (by first | exact Or.inl rfl | exact Or.inr (Or.inl rfl) | exact Or.inr (Or.inr rfl)) (se_div (se_ix (se_v 2) (se_v 4)) (se_ix (se_ix (se_v 0) (se_v 4)) (se_v 4))) (se_v 4))
    (ss_one (ss_setLc (own := [("_law_x", 6), ("_law_y", 7)]) (i := 2) rfl nd rfl rfl (sw_true rfl rfl rfl (by decide +kernel)) (si_zip (by rfl) Z.zip (sa_cons (se_v 2) (sa_cons (se_ix (se_v 0) (se_v 4)) sa_nil))) (by exact blkOk_by (N := N_l_due) (sc := defScope s_l_due) (own := [("_law_x", 6), ("_law_y", 7)]) (by decide +kernel)) (semg_tp (is := [6, 7])) (by decide) (fun _ _ _ _ _ => (pg_tup rfl (pgs_cons (pg_name (i := 6) nd rfl (by first | exact .inl rfl | exact .inr rfl)) (pgs_cons (pg_name (i := 7) nd rfl (by first | exact .inl rfl | exact .inr rfl)) pgs_nil)))) (fun _ _ _ _ _ => sts_nil) (fun _ _ _ _ _ => (se_sub (se_v 6) (se_mul (se_ix (se_v 3) (se_v 4)) (se_v 7))))))))))
    (ss_one (ss_ret (se_v 3))))))
theorem ok_l_is {f : Addr} {fd : FuncData} (F : Fun K "_law_is" "_law_is" s_l_is f fd) (Z : Zs mg)  : FnOk P w K mg base CX0 1 f fd ["_law_found", "_law_due_here"] (spF K mg 2 f_l_is) :=
  have nd := sc_l_is.nd
  fn_ok F sc_l_is (by decide) fun cdv A outer s H E hr =>
    (ss_cons (ss_if (st_cmp op_isN so_isN (se_v 1) se_non (nomark _))
    (ss_one (ss_ret (se_cmp op_isN so_isN (se_v 0) se_non (nomark _))))
    ss_nil)
    (ss_cons (ss_if (st_of (sw_or (st_not (st_val (se_isi (T := "list") (by decide) Z.isinstance Z.list bt_list (se_v 0)))) (sw_or1 (st_cmp (op_neD hr.units) so_ne (se_v 0) (se_v 1) (nomark _)))))
    (ss_one (ss_ret se_bl))
    ss_nil)
    (ss_one (ss_ret (se_cmp (op_eqD hr.units) so_eq (se_len Z.len (sa_cons (se_lcB (own := [("_law_x", 2)]) rfl nd (j := 0) rfl (by first | exact Or.inl rfl | exact Or.inr (Or.inl rfl) | exact Or.inr (Or.inr rfl)) (by exact blkOk_by (N := N_l_is) (sc := defScope s_l_is) (own := [("_law_x", 2)]) (by decide +kernel)) semg_nm (by decide) (fun _ _ _ _ _ => (pg_name (i := 2) nd rfl (by first | exact .inl rfl | exact .inr rfl))) (fun _ _ _ _ _ => (sts_one (st_of (sw_or (st_not (st_val (se_isi (T := "int") (by decide) Z.isinstance Z.int bt_int (se_v 2)))) (sw_or1 (st_val (se_isi (T := "bool") (by decide) Z.isinstance Z.bool bt_bool (se_v 2)))))))) (fun _ _ _ _ _ => (se_v 2))) sa_nil)) se_int (nomark _))))))
theorem ok_law {f : Addr} {fd : FuncData} (F : Fun K "law" "law" s_law f fd) (Z : Zs mg) (C_l_is : FnF P w K mg base "_law_is" 2 1 f_l_is) (C_whole_sum : FnF P w K mg base "whole_sum" 2 2 f_whole_sum) (C_l_due : FnF P w K mg base "_law_due" 2 1 f_l_due) (C_l_summed : FnF P w K mg base "_law_summed" 2 1 f_l_summed) (C_l_stream : FnF P w K mg base "_law_stream" 3 1 f_l_stream) (C_l_cell_at : FnF P w K mg base "_law_cell_at" 2 1 f_l_cell_at) (C_l_square : FnF P w K mg base "_law_square" 2 2 f_l_square) : FnOk P w K mg base CX0 3 f fd ["_law_script"] (spF K mg 1 f_law) :=
  have nd := sc_law.nd
  fn_ok F sc_law (by decide) fun cdv A outer s H E hr =>
    (ss_cons (ss_set (i := 1) nd rfl (.inl rfl) (se_call C_l_cell_at (hr.mono (by decide)) (by rfl) (sa_cons (se_v 0) (sa_cons se_int sa_nil)) (ar_cons (ar_cons ar_nil))))
    (ss_cons (ss_set (i := 2) nd rfl (.inl rfl) (se_add se_int (se_mod (se_v 1) se_int)))
    (ss_cons (ss_set (i := 3) nd rfl (.inl rfl) (se_call C_l_square (hr.mono (by decide)) (by rfl) (sa_cons (se_v 0) (sa_cons (se_v 2) sa_nil)) (ar_cons (ar_cons ar_nil))))
    (ss_cons (ss_set (i := 4) nd rfl (.inl rfl) (se_call C_l_stream (hr.mono (by decide)) (by rfl) (sa_cons (se_call C_l_cell_at (hr.mono (by decide)) (by rfl) (sa_cons (se_v 0) (sa_cons se_int sa_nil)) (ar_cons (ar_cons ar_nil))) (sa_cons se_int (sa_cons se_int sa_nil))) (ar_cons (ar_cons (ar_cons ar_nil)))))
    (ss_cons (ss_set (i := 5) nd rfl (.inl rfl) (se_lst sa_nil))
    (ss_cons (ss_for PassesOwn.never rfl (si_rng1 (by rfl) Z.range (sa_cons (se_v 2) sa_nil)) (pg_name (i := 6) nd rfl (.inl rfl)) semg_nm
    (ss_cons (ss_set (i := 7) nd rfl (.inl rfl) (se_sub (se_mod (se_pow (se_ix (se_v 4) (se_v 6)) se_int) (se_pow se_int se_int)) (se_pow se_int se_int)))
    (ss_one (ss_expr (se_mut (i := 5) PySem.F.slot_list_append PySem.F.type_list_append mt_append sm_append rfl (by first | exact Or.inl rfl | exact Or.inr (Or.inl rfl) | exact Or.inr (Or.inr rfl)) (sa_cons (se_ix (se_lst (sa_cons (se_sub (se_mod (se_ix (se_v 4) (se_v 6)) se_int) se_int) (sa_cons (se_sub (se_mod (se_ix (se_v 4) (se_v 6)) se_int) se_int) (sa_cons (se_v 7) sa_nil)))) (se_mod (se_div (se_v 1) se_int) se_int)) sa_nil))))))
    (ss_cons (ss_set (i := 8) nd rfl (.inl rfl) (se_call C_l_summed (hr.mono (by decide)) (by rfl) (sa_cons (se_v 3) (sa_cons (se_v 5) sa_nil)) (ar_cons (ar_cons ar_nil))))
    (ss_cons (ss_set (i := 9) nd rfl (.inl rfl) (se_tlist Z.list (sa_cons (se_v 3) sa_nil)))
    (ss_cons (ss_set (i := 10) nd rfl (.inl rfl) (se_call C_whole_sum (hr.mono (by decide)) (by rfl) (sa_cons (se_v 9) (sa_cons (se_v 8) sa_nil)) (ar_cons (ar_cons ar_nil))))
    (ss_cons (ss_if (st_of (sw_or (st_not (st_val (se_call C_l_is (hr.mono (by decide)) (by rfl) (sa_cons (se_v 10) (sa_cons (se_v 5) sa_nil)) (ar_cons (ar_cons ar_nil))))) (sw_or1 (st_cmp (op_neD hr.units) so_ne (se_v 9) (se_v 3) (nomark _)))))
    (ss_one (ss_ret se_bl))
    ss_nil)
    (ss_cons (ss_expr (se_mut (i := 10) PySem.F.slot_list_append PySem.F.type_list_append mt_append sm_append rfl (by first | exact Or.inl rfl | exact Or.inr (Or.inl rfl) | exact Or.inr (Or.inr rfl)) (sa_cons se_int sa_nil)))
    (ss_cons (ss_set (i := 11) nd rfl (.inl rfl) (se_mod (se_ix (se_v 4) se_int) (se_v 2)))
    (ss_cons (ss_set (i := 12) nd rfl (.inl rfl) (se_add (se_add (se_slice (se_v 8) so_none (so_some (se_v 11))) (se_tup (sa_cons (se_add (se_add (se_ix (se_v 8) (se_v 11)) se_int) (se_mod (se_ix (se_v 4) se_int) (se_ix (se_lst (sa_cons se_int (sa_cons se_int (sa_cons (se_pow se_int se_int) sa_nil)))) (se_mod (se_div (se_ix (se_v 4) se_int) se_int) se_int)))) sa_nil))) (se_slice (se_v 8) (so_some (se_add (se_v 11) se_int)) so_none)))
    (ss_cons (ss_if (st_not (st_val (se_call C_l_is (hr.mono (by decide)) (by rfl) (sa_cons (se_call C_whole_sum (hr.mono (by decide)) (by rfl) (sa_cons (se_v 3) (sa_cons (se_v 12) sa_nil)) (ar_cons (ar_cons ar_nil))) (sa_cons (se_call C_l_due (hr.mono (by decide)) (by rfl) (sa_cons (se_v 3) (sa_cons (se_v 12) sa_nil)) (ar_cons (ar_cons ar_nil))) sa_nil)) (ar_cons (ar_cons ar_nil)))))
    (ss_one (ss_ret se_bl))
    ss_nil)
    (ss_one (ss_ret (se_and (se_call C_l_is (hr.mono (by decide)) (by rfl) (sa_cons (se_call C_whole_sum (hr.mono (by decide)) (by rfl) (sa_cons (se_v 3) (sa_cons (se_ttuple Z.tuple (sa_cons (se_mul (se_lst (sa_cons se_int sa_nil)) (se_v 2)) sa_nil)) sa_nil)) (ar_cons (ar_cons ar_nil))) (sa_cons (se_mul (se_lst (sa_cons se_int sa_nil)) (se_v 2)) sa_nil)) (ar_cons (ar_cons ar_nil))) (se_one (se_call C_l_is (hr.mono (by decide)) (by rfl) (sa_cons (se_call C_whole_sum (hr.mono (by decide)) (by rfl) (sa_cons (se_v 3) (sa_cons (se_v 8) sa_nil)) (ar_cons (ar_cons ar_nil))) (sa_cons (se_v 5) sa_nil)) (ar_cons (ar_cons ar_nil)))))))))))))))))))))
end

theorem all_mk {l : PySem.W.OpenLaw} {w : World} {K : PySem.W.Frag} {h : Heap} {mg : Str → Option Value} {fa : Addr} {f0 f1 f2 f3 f4 f5 f6 f7 f8 : Addr} {od0 an0 od1 an1 od2 an2 od3 an3 od4 an4 od5 an5 od6 an6 od7 an7 od8 an8 : Option Addr} {sl0 sl1 sl2 sl3 sl4 sl5 sl6 sl7 sl8 : Array (Option Value)} {oc0 kV0 dc0 pm0 cd0 ct0 oc1 kV1 dc1 pm1 cd1 ct1 oc2 kV2 dc2 pm2 cd2 ct2 oc3 kV3 dc3 pm3 cd3 ct3 oc4 kV4 dc4 pm4 cd4 ct4 oc5 kV5 dc5 pm5 cd5 ct5 oc6 kV6 dc6 pm6 cd6 ct6 oc7 kV7 dc7 pm7 cd7 ct7 oc8 kV8 dc8 pm8 cd8 ct8 : Value} (X : K.In h) (G : h.Ns mainGlobals mg) (hfa : mg "law" = some (.ref fa))
    (a0 : PySem.W.nsIn K mainGlobals "blend" = some (some (.ref f0))) (l0 : K.lookup f0 = some ⟨oc0, od0, .func (PySem.W.fnOf "blend" "blend" (defArgs s_blend) (defBody s_blend) (defScope s_blend) .none kV0 dc0 pm0 an0 cd0 ct0), sl0⟩) (c0 : PySem.W.codeIn K cd0 "blend" = true) (k0 : PySem.W.keepIn K (.ref f0) = true)
    (a1 : PySem.W.nsIn K mainGlobals "whole_sum" = some (some (.ref f1))) (l1 : K.lookup f1 = some ⟨oc1, od1, .func (PySem.W.fnOf "whole_sum" "whole_sum" (defArgs s_whole_sum) (defBody s_whole_sum) (defScope s_whole_sum) .none kV1 dc1 pm1 an1 cd1 ct1), sl1⟩) (c1 : PySem.W.codeIn K cd1 "whole_sum" = true) (k1 : PySem.W.keepIn K (.ref f1) = true)
    (a2 : PySem.W.nsIn K mainGlobals "_law_cell_at" = some (some (.ref f2))) (l2 : K.lookup f2 = some ⟨oc2, od2, .func (PySem.W.fnOf "_law_cell_at" "_law_cell_at" (defArgs s_l_cell_at) (defBody s_l_cell_at) (defScope s_l_cell_at) .none kV2 dc2 pm2 an2 cd2 ct2), sl2⟩) (c2 : PySem.W.codeIn K cd2 "_law_cell_at" = true) (k2 : PySem.W.keepIn K (.ref f2) = true)
    (a3 : PySem.W.nsIn K mainGlobals "_law_stream" = some (some (.ref f3))) (l3 : K.lookup f3 = some ⟨oc3, od3, .func (PySem.W.fnOf "_law_stream" "_law_stream" (defArgs s_l_stream) (defBody s_l_stream) (defScope s_l_stream) .none kV3 dc3 pm3 an3 cd3 ct3), sl3⟩) (c3 : PySem.W.codeIn K cd3 "_law_stream" = true) (k3 : PySem.W.keepIn K (.ref f3) = true)
    (a4 : PySem.W.nsIn K mainGlobals "_law_square" = some (some (.ref f4))) (l4 : K.lookup f4 = some ⟨oc4, od4, .func (PySem.W.fnOf "_law_square" "_law_square" (defArgs s_l_square) (defBody s_l_square) (defScope s_l_square) .none kV4 dc4 pm4 an4 cd4 ct4), sl4⟩) (c4 : PySem.W.codeIn K cd4 "_law_square" = true) (k4 : PySem.W.keepIn K (.ref f4) = true)
    (a5 : PySem.W.nsIn K mainGlobals "_law_summed" = some (some (.ref f5))) (l5 : K.lookup f5 = some ⟨oc5, od5, .func (PySem.W.fnOf "_law_summed" "_law_summed" (defArgs s_l_summed) (defBody s_l_summed) (defScope s_l_summed) .none kV5 dc5 pm5 an5 cd5 ct5), sl5⟩) (c5 : PySem.W.codeIn K cd5 "_law_summed" = true) (k5 : PySem.W.keepIn K (.ref f5) = true)
    (a6 : PySem.W.nsIn K mainGlobals "_law_due" = some (some (.ref f6))) (l6 : K.lookup f6 = some ⟨oc6, od6, .func (PySem.W.fnOf "_law_due" "_law_due" (defArgs s_l_due) (defBody s_l_due) (defScope s_l_due) .none kV6 dc6 pm6 an6 cd6 ct6), sl6⟩) (c6 : PySem.W.codeIn K cd6 "_law_due" = true) (k6 : PySem.W.keepIn K (.ref f6) = true)
    (a7 : PySem.W.nsIn K mainGlobals "_law_is" = some (some (.ref f7))) (l7 : K.lookup f7 = some ⟨oc7, od7, .func (PySem.W.fnOf "_law_is" "_law_is" (defArgs s_l_is) (defBody s_l_is) (defScope s_l_is) .none kV7 dc7 pm7 an7 cd7 ct7), sl7⟩) (c7 : PySem.W.codeIn K cd7 "_law_is" = true) (k7 : PySem.W.keepIn K (.ref f7) = true)
    (a8 : PySem.W.nsIn K mainGlobals "law" = some (some (.ref f8))) (l8 : K.lookup f8 = some ⟨oc8, od8, .func (PySem.W.fnOf "law" "law" (defArgs s_law) (defBody s_law) (defScope s_law) .none kV8 dc8 pm8 an8 cd8 ct8), sl8⟩) (c8 : PySem.W.codeIn K cd8 "law" = true) (k8 : PySem.W.keepIn K (.ref f8) = true)
    (z0 : PySem.W.nsIn K mainGlobals "zip" = some none)
    (z1 : PySem.W.nsIn K mainGlobals "list" = some none)
    (z2 : PySem.W.nsIn K mainGlobals "reversed" = some none)
    (z3 : PySem.W.nsIn K mainGlobals "range" = some none)
    (z4 : PySem.W.nsIn K mainGlobals "len" = some none)
    (z5 : PySem.W.nsIn K mainGlobals "tuple" = some none)
    (z6 : PySem.W.nsIn K mainGlobals "sum" = some none)
    (z7 : PySem.W.nsIn K mainGlobals "isinstance" = some none)
    (z8 : PySem.W.nsIn K mainGlobals "bool" = some none)
    (z9 : PySem.W.nsIn K mainGlobals "int" = some none) :
    ∃ fd : FuncData, (∀ (s : Shared) (v : Value), BindsTo s fd ⟨[v], []⟩ [("_law_script", v)]) ∧ ∀ base : Heap, K.In base → base.Ns mainGlobals mg → FnOk l.prog w K mg base CX0 3 fa fd ["_law_script"] (spLaw K) := by
  have e := hfa.symm.trans (PySem.W.mg_of X G a8)
  cases e
  have Z : Zs mg := ⟨PySem.W.mg_none_of X G z0, PySem.W.mg_none_of X G z1, PySem.W.mg_none_of X G z2, PySem.W.mg_none_of X G z3, PySem.W.mg_none_of X G z4, PySem.W.mg_none_of X G z5, PySem.W.mg_none_of X G z6, PySem.W.mg_none_of X G z7, PySem.W.mg_none_of X G z8, PySem.W.mg_none_of X G z9⟩
  have F0 := fun_mk (st := s_blend) l0 c0 k0
  have b0 := F0.binds (ps := ["one", "many", "other", "much"]) fun _ _ _ _ _ _ us hl => match us, hl with | [_, _, _, _], _ => rfl
  have F1 := fun_mk (st := s_whole_sum) l1 c1 k1
  have b1 := F1.binds (ps := ["square", "line"]) fun _ _ _ _ _ _ us hl => match us, hl with | [_, _], _ => rfl
  have F2 := fun_mk (st := s_l_cell_at) l2 c2 k2
  have b2 := F2.binds (ps := ["_law_script", "_law_k"]) fun _ _ _ _ _ _ us hl => match us, hl with | [_, _], _ => rfl
  have F3 := fun_mk (st := s_l_stream) l3 c3 k3
  have b3 := F3.binds (ps := ["_law_cell", "_law_salt", "_law_many"]) fun _ _ _ _ _ _ us hl => match us, hl with | [_, _, _], _ => rfl
  have F4 := fun_mk (st := s_l_square) l4 c4 k4
  have b4 := F4.binds (ps := ["_law_script", "_law_long"]) fun _ _ _ _ _ _ us hl => match us, hl with | [_, _], _ => rfl
  have F5 := fun_mk (st := s_l_summed) l5 c5 k5
  have b5 := F5.binds (ps := ["_law_square_here", "_law_multiples"]) fun _ _ _ _ _ _ us hl => match us, hl with | [_, _], _ => rfl
  have F6 := fun_mk (st := s_l_due) l6 c6 k6
  have b6 := F6.binds (ps := ["_law_square_here", "_law_line"]) fun _ _ _ _ _ _ us hl => match us, hl with | [_, _], _ => rfl
  have F7 := fun_mk (st := s_l_is) l7 c7 k7
  have b7 := F7.binds (ps := ["_law_found", "_law_due_here"]) fun _ _ _ _ _ _ us hl => match us, hl with | [_, _], _ => rfl
  have F8 := fun_mk (st := s_law) l8 c8 k8
  refine ⟨PySem.W.fnOf "law" "law" (defArgs s_law) (defBody s_law) (defScope s_law) .none kV8 dc8 pm8 an8 cd8 ct8, fun s v => .of_eq rfl, fun base _ _ => ?_⟩
  have C_blend : FnF l.prog w K mg base "blend" 4 1 f_blend := fnF_mk F0 (PySem.W.mg_of X G a0) b0 (ok_blend F0 Z )
  have C_whole_sum : FnF l.prog w K mg base "whole_sum" 2 2 f_whole_sum := fnF_mk F1 (PySem.W.mg_of X G a1) b1 (ok_whole_sum F1 Z C_blend)
  have C_l_cell_at : FnF l.prog w K mg base "_law_cell_at" 2 1 f_l_cell_at := fnF_mk F2 (PySem.W.mg_of X G a2) b2 (ok_l_cell_at F2 Z )
  have C_l_stream : FnF l.prog w K mg base "_law_stream" 3 1 f_l_stream := fnF_mk F3 (PySem.W.mg_of X G a3) b3 (ok_l_stream F3 Z )
  have C_l_square : FnF l.prog w K mg base "_law_square" 2 2 f_l_square := fnF_mk F4 (PySem.W.mg_of X G a4) b4 (ok_l_square F4 Z C_l_stream C_l_cell_at)
  have C_l_summed : FnF l.prog w K mg base "_law_summed" 2 1 f_l_summed := fnF_mk F5 (PySem.W.mg_of X G a5) b5 (ok_l_summed F5 Z )
  have C_l_due : FnF l.prog w K mg base "_law_due" 2 1 f_l_due := fnF_mk F6 (PySem.W.mg_of X G a6) b6 (ok_l_due F6 Z )
  have C_l_is : FnF l.prog w K mg base "_law_is" 2 1 f_l_is := fnF_mk F7 (PySem.W.mg_of X G a7) b7 (ok_l_is F7 Z )
  exact law_imp (ok_law F8 Z C_l_is C_whole_sum C_l_due C_l_summed C_l_stream C_l_cell_at C_l_square) law_true

end EN
open PySem PySem.W PyProof.Rows
set_option maxRecDepth 100000 in
set_option maxHeartbeats 0 in
theorem PySem.Challenge.cw_evennotes_k11_whole_sums_told_holds : PySem.Challenge.rw_evennotes_k11_whole_sums_told.Holds := by
  w_on; o_law; k_head; (case hw => w_witness2)
  k_fill
  refine L2.walk_of (l := PySem.Challenge.rw_evennotes_k11_whole_sums_told) (n := 63) (k := 3) (x := "_law_script") (CX := fun _ => L2.CX0) (sp := fun w => FL.spLaw _) rfl (by decide) rfl ⟨rfl, by decide, by decide⟩ (fun w h Y => PySem.W.kIn_of Y) ?F (fun _ _ a ns hl _ hS => ⟨a, ns, rfl, hS, hl, fun _ => rfl⟩) (fun _ _ _ _ _ h => h)
  case F =>
    intro w mg fa h KX G hmg
    refine' EN.all_mk KX G hmg ?a0 ?l0 ?c0 ?k0 ?a1 ?l1 ?c1 ?k1 ?a2 ?l2 ?c2 ?k2 ?a3 ?l3 ?c3 ?k3 ?a4 ?l4 ?c4 ?k4 ?a5 ?l5 ?c5 ?k5 ?a6 ?l6 ?c6 ?k6 ?a7 ?l7 ?c7 ?k7 ?a8 ?l8 ?c8 ?k8 ?z0 ?z1 ?z2 ?z3 ?z4 ?z5 ?z6 ?z7 ?z8 ?z9
    (case a0 => k_is)
    (case l0 => k_is)
    (case c0 => k_is)
    (case k0 => k_is)
    (case a1 => k_is)
    (case l1 => k_is)
    (case c1 => k_is)
    (case k1 => k_is)
    (case a2 => k_is)
    (case l2 => k_is)
    (case c2 => k_is)
    (case k2 => k_is)
    (case a3 => k_is)
    (case l3 => k_is)
    (case c3 => k_is)
    (case k3 => k_is)
    (case a4 => k_is)
    (case l4 => k_is)
    (case c4 => k_is)
    (case k4 => k_is)
    (case a5 => k_is)
    (case l5 => k_is)
    (case c5 => k_is)
    (case k5 => k_is)
    (case a6 => k_is)
    (case l6 => k_is)
    (case c6 => k_is)
    (case k6 => k_is)
    (case a7 => k_is)
    (case l7 => k_is)
    (case c7 => k_is)
    (case k7 => k_is)
    (case a8 => k_is)
    (case l8 => k_is)
    (case c8 => k_is)
    (case k8 => k_is)
    (case z0 => k_is)
    (case z1 => k_is)
    (case z2 => k_is)
    (case z3 => k_is)
    (case z4 => k_is)
    (case z5 => k_is)
    (case z6 => k_is)
    (case z7 => k_is)
    (case z8 => k_is)
    (case z9 => k_is)
#print axioms PySem.Challenge.cw_evennotes_k11_whole_sums_told_holds

