import PyProof.Rows.All
import Wide.All
import OpenK.AllK
import Wide.FinOn
import PySem.Challenge.RW_buildroom_k42_whole_leads
import HandS.ForMost
import HandS.TupAny
import HandS.TupMul
import HandS.Style
import HandS.Conv
import HandS.IsInst
import HandS.Flow
import KE.KDictKeyed
import KE.KDictLaw
import KE.SortData
import KE.DataMinMax
import KE.KDictDisplayH
import HandS.Ends
set_option Elab.async false
set_option linter.all false
set_option maxRecDepth 100000
set_option maxHeartbeats 4000000
namespace Deep
open PySem PySem.Spec PyProof.Rows L2

/-- data by value: what never changes, and lists and dicts that are locked -/
inductive D where
  | non | bl (b : Bool) | int (i : Int) | str (x : Str) | tup (xs : List D) | lst (xs : List D)
  | dic (ks : List NestedKey) (vs : List D) | dicK (ks : List Key) (vs : List D) | adr (a : Addr)

mutual
/-- a key as data -/
def kd : NestedKey → D
  | .none => .non
  | .num i => .int i
  | .text x => .str x
  | .tup ks => .tup (kds ks)
def kds : List NestedKey → List D
  | [] => []
  | k :: ks => kd k :: kds ks
end
theorem kds_map : ∀ ks : List NestedKey, kds ks = ks.map kd
  | [] => rfl
  | k :: ks => by rw [kds, kds_map ks] <;> rfl
mutual
def toKey : D → Option NestedKey
  | .non => some .none
  | .int i => some (.num i)
  | .str x => some (.text x)
  | .tup xs => (toKeys xs).map .tup
  | .bl _ => none
  | .lst _ => none
  | .dic _ _ => none
  | .dicK _ _ => none
  | .adr _ => none
def toKeys : List D → Option (List NestedKey)
  | [] => some []
  | x :: xs => match toKey x, toKeys xs with
    | some k, some ks => some (k :: ks)
    | _, _ => none
end
mutual
theorem kd_of : ∀ {d : D} {k : NestedKey}, toKey d = some k → kd k = d
  | .non, k, h => by rw [toKey] at h; cases h; rfl
  | .int i, k, h => by rw [toKey] at h; cases h; rfl
  | .str x, k, h => by rw [toKey] at h; cases h; rfl
  | .tup xs, k, h => by
    rw [toKey] at h
    obtain ⟨ks, e, rfl⟩ := Option.map_eq_some_iff.mp h
    rw [kd, kds_of e]
  | .bl _, k, h => by rw [toKey] at h; cases h
  | .lst _, k, h => by rw [toKey] at h; cases h
  | .dic _ _, k, h => by rw [toKey] at h; cases h
  | .dicK _ _, k, h => by rw [toKey] at h; cases h
  | .adr _, k, h => by rw [toKey] at h; cases h
theorem kds_of : ∀ {ds : List D} {ks : List NestedKey}, toKeys ds = some ks → kds ks = ds
  | [], ks, h => by rw [toKeys] at h; cases h; rfl
  | d :: ds, ks, h => by
    rw [toKeys] at h
    split at h
    · rename_i k ks' e1 e2
      cases h
      rw [kds, kd_of e1, kds_of e2]
    · cases h
end
/-- a key that a dict takes here: a tuple, not too deep -/
def keyOf (d : D) : Option NestedKey := match d with
  | .tup xs => match toKey (.tup xs) with
    | some k => if k.depth ≤ 8 then some k else none
    | none => none
  | _ => none
theorem keyOf_tup {d : D} {k : NestedKey} (h : keyOf d = some k) : (∃ xs, d = .tup xs) ∧ toKey d = some k ∧ k.depth ≤ 8 := by
  unfold keyOf at h
  split at h
  · rename_i xs
    split at h
    · rename_i k' e
      split at h
      · cases h
        exact ⟨⟨xs, rfl⟩, e, by assumption⟩
      · cases h
    · cases h
  · cases h

/-! ### what stands at a dict with tuple keys -/
abbrev Ent := NestedKey × Addr × V
def EntR (e : Ent) (x : NestedKey × Addr × Value) : Prop := e.1 = x.1 ∧ e.2.1 = x.2.1 ∧ RelV e.2.2 x.2.2
def DOb (w : World) (a : Addr) (ents : List Ent) (h : Heap) : Prop :=
  ents.length ≤ sizeLine ∧ (a == sysModules) = false ∧ ∃ (xs : List (NestedKey × Addr × Value)) (o : Obj) (es : Array DictEntry) (ep : Nat), Paired EntR ents xs ∧
    h.get? a = some o ∧ o.ExactDict ∧ o.data = .dict es ep ∧ es.toList = xs.map (fun x => (⟨x.1.hash w, .ref x.2.1, x.2.2⟩ : DictEntry)) ∧ (xs.map (·.1)).Nodup
def dO (w : World) (a : Addr) (ents : List Ent) : HO := .ext (DOb w a ents)

section
variable (w : World) (K : PySem.W.Frag) (H : Hp)
mutual
/-- the value v is the data d -/
inductive Rep : V → D → Prop
  | non : Rep .non .non
  | bl (b) : Rep (.bl b) (.bl b)
  | int (i) : Rep (.int i) (.int i)
  | str (x) : Rep (.str x) (.str x)
  /-- a thing of which nothing is told -/
  | adr (a) : Rep (.ref a) (.adr a)
  | tup {a vs ds} : SqT K H a vs → Reps vs ds → Rep (.ref a) (.tup ds)
  | lst {a o vs ds} : H a = some (.frz o (.lst vs)) → Reps vs ds → Rep (.ref a) (.lst ds)
  | dic {a o ks ds} (ents : List Ent) : H a = some (.frz o (dO w a ents)) → ents.map (·.1) = ks → Reps (ents.map fun e => V.ref e.2.1) (kds ks) → Reps (ents.map (·.2.2)) ds → (∀ k ∈ ks, k.depth ≤ 8) → Rep (.ref a) (.dic ks ds)
  | dicK {a o ks ds} (kvs : List (Key × V)) : H a = some (.frz o (.dK kvs)) → kvs.map (·.1) = ks → Reps (kvs.map (·.2)) ds → Rep (.ref a) (.dicK ks ds)
inductive Reps : List V → List D → Prop
  | nil : Reps [] []
  | cons {v d vs ds} : Rep v d → Reps vs ds → Reps (v :: vs) (d :: ds)
end
end
/-- tuples and locked things stay -/
structure Kept (H H' : Hp) : Prop where
  t : ∀ a xs, H a = some (.tup xs) → H' a = some (.tup xs)
  f : ∀ a o u, H a = some (.frz o u) → H' a = some (.frz o u)
theorem Kept.refl (H : Hp) : Kept H H := ⟨fun _ _ h => h, fun _ _ _ h => h⟩
theorem Kept.trans {H H1 H2 : Hp} (a : Kept H H1) (b : Kept H1 H2) : Kept H H2 := ⟨fun c xs h => b.t c xs (a.t c xs h), fun c o u h => b.f c o u (a.f c o u h)⟩
theorem Kept.same {H H' : Hp} (s : Same H H') : Kept H H' := ⟨fun a xs h => s a _ h, fun a o u h => s a _ h⟩
theorem Kept.new {H : Hp} {p : Addr} {o : HO} (h : H p = none) : Kept H (upd H p o) := ⟨fun a xs e => by rw [upd_ne (ne_of_none e h)]; exact e, fun a o' u e => by rw [upd_ne (ne_of_none e h)]; exact e⟩
theorem Kept.write {H : Hp} {p : Addr} {o u : HO} (h : H p = some u) (mu : Mut (some u)) : Kept H (upd H p o) :=
  ⟨fun a xs e => by rw [upd_ne (fun z => by rw [z, h] at e; cases e; exact mu)]; exact e, fun a o' u' e => by rw [upd_ne (fun z => by rw [z, h] at e; cases e; exact mu)]; exact e⟩
theorem Kept.seq {K : PySem.W.Frag} {H H' : Hp} {a : Addr} {xs : List V} (k : Kept H H') (h : SqT K H a xs) : SqT K H' a xs := by
  rcases h with (h | ⟨o, h⟩) | h
  · exact .inl (.inl (k.t _ _ h))
  · exact .inl (.inr ⟨o, k.f _ _ _ h⟩)
  · exact .inr h
section
variable {w : World} {K : PySem.W.Frag} {H H' : Hp}
mutual
theorem Rep.mono (k : Kept H H') : ∀ {v : V} {d : D}, Rep w K H v d → Rep w K H' v d
  | _, _, .non => .non
  | _, _, .bl b => .bl b
  | _, _, .int i => .int i
  | _, _, .str x => .str x
  | _, _, .adr a => .adr a
  | _, _, .tup s r => .tup (k.seq s) (Reps.mono k r)
  | _, _, .lst s r => .lst (k.f _ _ _ s) (Reps.mono k r)
  | _, _, .dic ents s e r1 r2 z => .dic ents (k.f _ _ _ s) e (Reps.mono k r1) (Reps.mono k r2) z
  | _, _, .dicK kvs s e r => .dicK kvs (k.f _ _ _ s) e (Reps.mono k r)
theorem Reps.mono (k : Kept H H') : ∀ {vs : List V} {ds : List D}, Reps w K H vs ds → Reps w K H' vs ds
  | _, _, .nil => .nil
  | _, _, .cons r t => .cons (Rep.mono k r) (Reps.mono k t)
end
theorem Reps.length : ∀ {vs : List V} {ds : List D}, Reps w K H vs ds → vs.length = ds.length
  | _, _, .nil => rfl
  | _, _, .cons _ t => by rw [List.length_cons, List.length_cons, Reps.length t]
theorem Reps.get : ∀ {vs : List V} {ds : List D} {i : Nat} {d : D}, Reps w K H vs ds → ds[i]? = some d → ∃ v, vs[i]? = some v ∧ Rep w K H v d
  | _, _, _, _, .nil, h => by simp at h
  | _, _, 0, _, .cons r _, h => by simp at h; subst h; exact ⟨_, rfl, r⟩
  | _, _, i + 1, d, .cons _ t, h => by
    obtain ⟨v, h1, h2⟩ := Reps.get (i := i) (d := d) t (by simpa using h)
    exact ⟨v, by simpa using h1, h2⟩
theorem Reps.get' : ∀ {vs : List V} {ds : List D} {i : Nat} {v : V}, Reps w K H vs ds → vs[i]? = some v → ∃ d, ds[i]? = some d ∧ Rep w K H v d
  | _, _, _, _, .nil, h => by simp at h
  | _, _, 0, _, .cons r _, h => by simp at h; subst h; exact ⟨_, rfl, r⟩
  | _, _, i + 1, v, .cons _ t, h => by
    obtain ⟨d, h1, h2⟩ := Reps.get' (i := i) (v := v) t (by simpa using h)
    exact ⟨d, by simpa using h1, h2⟩
theorem Reps.append : ∀ {vs us : List V} {ds es : List D}, Reps w K H vs ds → Reps w K H us es → Reps w K H (vs ++ us) (ds ++ es)
  | _, _, _, _, .nil, s => s
  | _, _, _, _, .cons r t, s => .cons r (Reps.append t s)
theorem Reps.take : ∀ {vs : List V} {ds : List D} (n : Nat), Reps w K H vs ds → Reps w K H (vs.take n) (ds.take n)
  | _, _, 0, _ => .nil
  | _, _, _ + 1, .nil => .nil
  | _, _, n + 1, .cons r t => .cons r (Reps.take n t)
theorem Reps.drop : ∀ {vs : List V} {ds : List D} (n : Nat), Reps w K H vs ds → Reps w K H (vs.drop n) (ds.drop n)
  | _, _, 0, r => r
  | _, _, _ + 1, .nil => .nil
  | _, _, n + 1, .cons _ t => Reps.drop n t
theorem Reps.reverse {vs : List V} {ds : List D} (r : Reps w K H vs ds) : Reps w K H vs.reverse ds.reverse := by
  induction vs generalizing ds with
  | nil => cases r; exact .nil
  | cons v vs ih =>
    cases r with
    | cons r t =>
      rw [List.reverse_cons, List.reverse_cons]
      exact (ih t).append (.cons r .nil)
theorem Reps.set : ∀ {vs : List V} {ds : List D} {v : V} {d : D} (i : Nat), Rep w K H v d → Reps w K H vs ds → Reps w K H (vs.set i v) (ds.set i d)
  | _, _, _, _, _, _, .nil => .nil
  | _, _, _, _, 0, r, .cons _ t => .cons r t
  | _, _, _, _, i + 1, r, .cons q t => .cons q (Reps.set i r t)
theorem Reps.ints : ∀ {vs : List V} {ns : List Int}, Reps w K H vs (ns.map D.int) → vs = ns.map V.int
  | _, [], .nil => rfl
  | _, n :: ns, .cons r t => by cases r; rw [List.map_cons, Reps.ints t]
theorem Reps.of_ints : ∀ (ns : List Int), Reps w K H (ns.map V.int) (ns.map D.int)
  | [] => .nil
  | n :: ns => .cons (.int n) (Reps.of_ints ns)
end

/-! ### lists and dicts of the def's own -/
inductive MO where
  | lst (ds : List D) | dic (es : List (NestedKey × D)) | dicK (es : List (Key × D))
inductive DV where
  | im (d : D) | mu (m : MO)
def MO.frz : MO → D
  | .lst ds => .lst ds
  | .dic es => .dic (es.map (·.1)) (es.map (·.2))
  | .dicK es => .dicK (es.map (·.1)) (es.map (·.2))
abbrev DSt := List (Option DV)
section
variable (w : World) (K : PySem.W.Frag) (H : Hp)
/-- the thing o is the content m -/
def Cont (a : Addr) (o : HO) : MO → Prop
  | .lst ds => ∃ vs, o = .lst vs ∧ Reps w K H vs ds
  | .dic es => ∃ ents : List Ent, o = dO w a ents ∧ ents.map (·.1) = es.map (·.1) ∧ Reps w K H (ents.map fun e => V.ref e.2.1) (kds (es.map (·.1))) ∧ Reps w K H (ents.map (·.2.2)) (es.map (·.2)) ∧ ∀ k ∈ es.map (·.1), k.depth ≤ 8
  | .dicK es => ∃ kvs : List (Key × V), o = .dK kvs ∧ kvs.map (·.1) = es.map (·.1) ∧ Reps w K H (kvs.map (·.2)) (es.map (·.2))
def MRep (a : Addr) (m : MO) : Prop := ∃ o, H a = some o ∧ Cont w K H a o m
end
section
variable {w : World} {K : PySem.W.Frag} {H H' : Hp} {a : Addr} {o : HO} {m : MO}
theorem Cont.mut (c : Cont w K H a o m) : Mut (some o) := by
  cases m with
  | lst ds => obtain ⟨vs, rfl, _⟩ := c; trivial
  | dic es => obtain ⟨ents, rfl, _⟩ := c; trivial
  | dicK es => obtain ⟨kvs, rfl, _⟩ := c; trivial
theorem Cont.mono (k : Kept H H') (c : Cont w K H a o m) : Cont w K H' a o m := by
  cases m with
  | lst ds => obtain ⟨vs, e, r⟩ := c; exact ⟨vs, e, r.mono k⟩
  | dic es => obtain ⟨ents, e, e2, r1, r2, z⟩ := c; exact ⟨ents, e, e2, r1.mono k, r2.mono k, z⟩
  | dicK es => obtain ⟨kvs, e, e2, r⟩ := c; exact ⟨kvs, e, e2, r.mono k⟩
theorem Cont.rep {od : Obj} (c : Cont w K H a o m) (h : H a = some (.frz od o)) : Rep w K H (.ref a) m.frz := by
  cases m with
  | lst ds => obtain ⟨vs, rfl, r⟩ := c; exact .lst h r
  | dic es => obtain ⟨ents, rfl, e2, r1, r2, z⟩ := c; exact .dic ents h e2 r1 r2 z
  | dicK es => obtain ⟨kvs, rfl, e2, r⟩ := c; exact .dicK kvs h e2 r
theorem MRep.mono (k : Kept H H') (e : H' a = H a) (r : MRep w K H a m) : MRep w K H' a m := by
  obtain ⟨o, h, c⟩ := r
  exact ⟨o, e.trans h, c.mono k⟩
theorem MRep.some (r : MRep w K H a m) : H a ≠ none := by
  obtain ⟨o, h, _⟩ := r
  rw [h]; exact fun z => nomatch z
end

/-! ### the state of a def -/
def VRep (w : World) (K : PySem.W.Frag) (G H : Hp) (v : V) : DV → Prop
  | .im d => Rep w K H v d
  | .mu m => ∃ a, v = .ref a ∧ G a = none ∧ MRep w K H a m
structure DRel (w : World) (K : PySem.W.Frag) (G : Hp) (σD : DSt) (σV : L2.St) (H : Hp) : Prop where
  len : σD.length = σV.length
  same : Same G H
  slot : ∀ (i : Nat) (dv : DV), σD[i]? = some (some dv) → ∃ v, σV[i]? = some (some v) ∧ VRep w K G H v dv
  dist : ∀ (i j : Nat) (m m' : MO) (a : Addr), σD[i]? = some (some (.mu m)) → σD[j]? = some (some (.mu m')) → σV[i]? = some (some (.ref a)) → σV[j]? = some (some (.ref a)) → i = j
section
variable {w : World} {K : PySem.W.Frag} {G H H' : Hp} {σD : DSt} {σV : L2.St} {i : Nat} {m m' : MO} {d : D} {v : V} {a : Addr}
theorem DRel.im (r : DRel w K G σD σV H) (h : σD[i]? = some (some (.im d))) : ∃ v, σV[i]? = some (some v) ∧ Rep w K H v d := r.slot i _ h
theorem DRel.mu (r : DRel w K G σD σV H) (h : σD[i]? = some (some (.mu m))) : ∃ a, σV[i]? = some (some (.ref a)) ∧ G a = none ∧ MRep w K H a m := by
  obtain ⟨v, e, a, rfl, g, q⟩ := r.slot i _ h
  exact ⟨a, e, g, q⟩
/-- nothing that stands changes -/
theorem DRel.grow (r : DRel w K G σD σV H) (s : Same H H') : DRel w K G σD σV H' where
  len := r.len
  same := r.same.trans s
  slot := fun i dv e => by
    obtain ⟨v, e1, q⟩ := r.slot i dv e
    refine ⟨v, e1, ?_⟩
    cases dv with
    | im d => exact Rep.mono (.same s) q
    | mu m =>
      obtain ⟨a, e2, g, o, h, c⟩ := q
      exact ⟨a, e2, g, o, s _ _ h, c.mono (.same s)⟩
  dist := r.dist
/-- the own thing at a changes its content -/
theorem DRel.write {o o' : HO} (r : DRel w K G σD σV H) (h : σD[i]? = some (some (.mu m))) (hv : σV[i]? = some (some (.ref a))) (ho : H a = some o) (mu : Mut (some o)) (c : ∀ H', Kept H H' → Cont w K H' a o' m') :
    DRel w K G (σD.set i (some (.mu m'))) σV (upd H a o') := by
  have k : Kept H (upd H a o') := .write ho mu
  have ga : G a = none := by
    obtain ⟨b, e, g, _⟩ := r.mu h
    rw [hv] at e; cases e; exact g
  have hi : i < σD.length := (List.getElem?_eq_some_iff.mp h).1
  have other : ∀ (j : Nat) (n : MO) (b : Addr), j ≠ i → σD[j]? = some (some (.mu n)) → σV[j]? = some (some (.ref b)) → b ≠ a := fun j n b hj e1 e2 z => hj (r.dist j i n m a e1 h (z ▸ e2) hv)
  refine ⟨by rw [List.length_set]; exact r.len, fun b o e => ?_, fun j dv e => ?_, fun j l n n' b e1 e2 e3 e4 => ?_⟩
  · rw [upd_ne (fun z => by rw [z, ga] at e; cases e)]; exact r.same b o e
  · by_cases hj : j = i
    · subst hj
      rw [List.getElem?_set_self hi] at e
      cases e
      exact ⟨_, hv, a, rfl, ga, o', upd_same, c _ k⟩
    · rw [List.getElem?_set_ne (Ne.symm hj)] at e
      obtain ⟨v, e1, q⟩ := r.slot j dv e
      refine ⟨v, e1, ?_⟩
      cases dv with
      | im d => exact Rep.mono k q
      | mu n =>
        obtain ⟨b, rfl, g, q⟩ := q
        exact ⟨b, rfl, g, q.mono k (upd_ne (other j n b hj e e1))⟩
  · have at_ : ∀ (x : Nat) (p : MO), (σD.set i (some (.mu m')))[x]? = some (some (.mu p)) → ∃ p', σD[x]? = some (some (.mu p')) := fun x p e => by
      by_cases hx : x = i
      · subst hx; exact ⟨m, h⟩
      · rw [List.getElem?_set_ne (Ne.symm hx)] at e; exact ⟨p, e⟩
    obtain ⟨p, q1⟩ := at_ j n e1
    obtain ⟨p', q2⟩ := at_ l n' e2
    exact r.dist j l p p' b q1 q2 e3 e4
/-- a name is given a value -/
theorem DRel.setIm (r : DRel w K G σD σV H) (q : Rep w K H v d) (i : Nat) : DRel w K G (σD.set i (some (.im d))) (σV.set i (some v)) H := by
  refine ⟨by rw [List.length_set, List.length_set]; exact r.len, r.same, fun j dv e => ?_, fun j l n n' b e1 e2 e3 e4 => ?_⟩
  · by_cases hj : j = i
    · subst hj
      have hl : j < σD.length := by have := (List.getElem?_eq_some_iff.mp e).1; rwa [List.length_set] at this
      rw [List.getElem?_set_self hl] at e
      cases e
      exact ⟨v, by rw [List.getElem?_set_self (by rw [← r.len]; exact hl)], q⟩
    · rw [List.getElem?_set_ne (Ne.symm hj)] at e
      rw [List.getElem?_set_ne (Ne.symm hj)]
      exact r.slot j dv e
  · have ne : ∀ (x : Nat) (p : MO), (σD.set i (some (.im d)))[x]? = some (some (.mu p)) → x ≠ i := fun x p e z => by
      subst z
      have hl : x < σD.length := by have := (List.getElem?_eq_some_iff.mp e).1; rwa [List.length_set] at this
      rw [List.getElem?_set_self hl] at e; cases e
    have n1 := ne j n e1
    have n2 := ne l n' e2
    rw [List.getElem?_set_ne (Ne.symm n1)] at e1 e3
    rw [List.getElem?_set_ne (Ne.symm n2)] at e2 e4
    exact r.dist j l n n' b e1 e2 e3 e4
theorem DRel.setMu (r : DRel w K G σD σV H) (q : MRep w K H a m) (g : G a = none) (ne : ∀ (j : Nat) (n : MO), σD[j]? = some (some (.mu n)) → σV[j]? ≠ some (some (.ref a))) (i : Nat) :
    DRel w K G (σD.set i (some (.mu m))) (σV.set i (some (.ref a))) H := by
  refine ⟨by rw [List.length_set, List.length_set]; exact r.len, r.same, fun j dv e => ?_, fun j l n n' b e1 e2 e3 e4 => ?_⟩
  · by_cases hj : j = i
    · subst hj
      have hl : j < σD.length := by have := (List.getElem?_eq_some_iff.mp e).1; rwa [List.length_set] at this
      rw [List.getElem?_set_self hl] at e
      cases e
      exact ⟨_, by rw [List.getElem?_set_self (by rw [← r.len]; exact hl)], a, rfl, g, q⟩
    · rw [List.getElem?_set_ne (Ne.symm hj)] at e
      rw [List.getElem?_set_ne (Ne.symm hj)]
      exact r.slot j dv e
  · have val : ∀ (x : Nat) (p : MO) (c : Addr), (σD.set i (some (.mu m)))[x]? = some (some (.mu p)) → (σV.set i (some (.ref a)))[x]? = some (some (.ref c)) → (x = i ∧ c = a) ∨ (x ≠ i ∧ σD[x]? = some (some (.mu p)) ∧ σV[x]? = some (some (.ref c)) ∧ c ≠ a) := fun x p c e e' => by
      by_cases hx : x = i
      · subst hx
        have hl : x < σD.length := by have := (List.getElem?_eq_some_iff.mp e).1; rwa [List.length_set] at this
        rw [List.getElem?_set_self (by rw [← r.len]; exact hl)] at e'
        cases e'
        exact .inl ⟨rfl, rfl⟩
      · rw [List.getElem?_set_ne (Ne.symm hx)] at e e'
        exact .inr ⟨hx, e, e', fun z => ne x p e (z ▸ e')⟩
    rcases val j n b e1 e3 with ⟨z1, z2⟩ | ⟨z1, z2, z3, z4⟩
    · rcases val l n' b e2 e4 with ⟨y1, _⟩ | ⟨_, _, _, y4⟩
      · exact z1.trans y1.symm
      · exact absurd z2 y4
    · rcases val l n' b e2 e4 with ⟨_, y2⟩ | ⟨_, y2, y3, _⟩
      · exact absurd y2 z4
      · exact r.dist j l n n' b z2 y2 z3 y3
/-- an own thing is locked for good -/
theorem DRel.freeze {o : HO} (r : DRel w K G σD σV H) (h : σD[i]? = some (some (.mu m))) (hv : σV[i]? = some (some (.ref a))) (ho : H a = some o) (od : Obj) : DRel w K G (σD.set i (some (.im m.frz))) σV (upd H a (.frz od o)) := by
  obtain ⟨b, e, g, o', ho', c⟩ := r.mu h
  rw [hv] at e; cases e
  rw [ho] at ho'; cases ho'
  have k : Kept H (upd H a (.frz od o)) := .write ho c.mut
  have hi : i < σD.length := (List.getElem?_eq_some_iff.mp h).1
  refine ⟨by rw [List.length_set]; exact r.len, fun b o e => ?_, fun j dv e => ?_, fun j l n n' b e1 e2 e3 e4 => ?_⟩
  · rw [upd_ne (fun z => by rw [z, g] at e; cases e)]; exact r.same b o e
  · by_cases hj : j = i
    · subst hj
      rw [List.getElem?_set_self hi] at e
      cases e
      exact ⟨_, hv, (c.mono k).rep upd_same⟩
    · rw [List.getElem?_set_ne (Ne.symm hj)] at e
      obtain ⟨v, e1, q⟩ := r.slot j dv e
      refine ⟨v, e1, ?_⟩
      cases dv with
      | im d => exact Rep.mono k q
      | mu n =>
        obtain ⟨b, rfl, g', q⟩ := q
        exact ⟨b, rfl, g', q.mono k (upd_ne fun z => hj (r.dist j i n m a e h (z ▸ e1) hv))⟩
  · have ne : ∀ (x : Nat) (p : MO), (σD.set i (some (.im m.frz)))[x]? = some (some (.mu p)) → x ≠ i := fun x p e z => by
      subst z
      rw [List.getElem?_set_self hi] at e; cases e
    have n1 := ne j n e1
    have n2 := ne l n' e2
    rw [List.getElem?_set_ne (Ne.symm n1)] at e1
    rw [List.getElem?_set_ne (Ne.symm n2)] at e2
    exact r.dist j l n n' b e1 e2 e3 e4
/-- what is not the def's own stands as before for all that follows: G may be taken greater -/
noncomputable def base (σD : DSt) (σV : L2.St) (H : Hp) : Hp := fun a => open Classical in if ∃ (i : Nat) (m : MO), σD[i]? = some (some (.mu m)) ∧ σV[i]? = some (some (.ref a)) then none else H a
theorem base_own {i : Nat} (h : σD[i]? = some (some (.mu m))) (hv : σV[i]? = some (some (.ref a))) : base σD σV H a = none := by
  unfold base
  rw [if_pos ⟨i, m, h, hv⟩]
theorem base_sub {o : HO} (h : base σD σV H a = some o) : H a = some o := by
  unfold base at h
  split at h
  · cases h
  · exact h
theorem DRel.rebase (r : DRel w K G σD σV H) : DRel w K (base σD σV H) σD σV H where
  len := r.len
  same := fun a o h => base_sub h
  slot := fun i dv e => by
    obtain ⟨v, e1, q⟩ := r.slot i dv e
    refine ⟨v, e1, ?_⟩
    cases dv with
    | im d => exact q
    | mu m =>
      obtain ⟨a, rfl, _, q⟩ := q
      exact ⟨a, rfl, base_own e e1, q⟩
  dist := r.dist
theorem DRel.sub (r : DRel w K G σD σV H) : Same G (base σD σV H) := fun a o e => by
  unfold base
  rw [if_neg]
  · exact r.same a o e
  · rintro ⟨i, m, h, hv⟩
    obtain ⟨b, e1, g, _⟩ := r.mu h
    rw [hv] at e1; cases e1
    rw [g] at e; cases e
/-- back to the smaller one -/
theorem DRel.unbase {G' : Hp} (s : Same G G') (r : DRel w K G' σD σV H) : DRel w K G σD σV H where
  len := r.len
  same := s.trans r.same
  slot := fun i dv e => by
    obtain ⟨v, e1, q⟩ := r.slot i dv e
    refine ⟨v, e1, ?_⟩
    cases dv with
    | im d => exact q
    | mu m =>
      obtain ⟨a, rfl, g, q⟩ := q
      exact ⟨a, rfl, s.free g, q⟩
  dist := r.dist
theorem base_frz {o : Obj} {u : HO} (r : DRel w K G σD σV H) (h : H a = some (.frz o u)) : base σD σV H a = some (.frz o u) := by
  unfold base
  rw [if_neg]
  · exact h
  · rintro ⟨i, m, h1, hv⟩
    obtain ⟨b, e1, g, o', ho, c⟩ := r.mu h1
    rw [hv] at e1; cases e1
    rw [h] at ho; cases ho
    exact c.mut
theorem base_tup {xs : List V} (r : DRel w K G σD σV H) (h : H a = some (.tup xs)) : base σD σV H a = some (.tup xs) := by
  unfold base
  rw [if_neg]
  · exact h
  · rintro ⟨i, m, h1, hv⟩
    obtain ⟨b, e1, g, o', ho, c⟩ := r.mu h1
    rw [hv] at e1; cases e1
    rw [h] at ho; cases ho
    exact c.mut
theorem DRel.kept (r : DRel w K G σD σV H) : Kept H (base σD σV H) := ⟨fun a xs h => base_tup r h, fun a o u h => base_frz r h⟩
/-- names forgotten -/
theorem DRel.weak {σD' : DSt} {σV' : L2.St} (r : DRel w K G σD σV H) (hl : σD'.length = σV'.length) (h : ∀ (i : Nat) (dv : DV), σD'[i]? = some (some dv) → σD[i]? = some (some dv) ∧ σV'[i]? = σV[i]?) : DRel w K G σD' σV' H where
  len := hl
  same := r.same
  slot := fun i dv e => by
    obtain ⟨e1, e2⟩ := h i dv e
    rw [e2]
    exact r.slot i dv e1
  dist := fun i j m m' a e1 e2 e3 e4 => by
    obtain ⟨q1, q2⟩ := h i _ e1
    obtain ⟨q3, q4⟩ := h j _ e2
    exact r.dist i j m m' a q1 q3 (q2 ▸ e3) (q4 ▸ e4)
end
end Deep
set_option maxRecDepth 100000
set_option maxHeartbeats 4000000
namespace Deep
open PySem PySem.Spec PyProof.Rows L2

/-! ### what may be read now -/
def RdR (w : World) (K : PySem.W.Frag) (H : Hp) (v : V) (d : D) : Prop := Rep w K H v d ∨ ∃ a m, v = .ref a ∧ MRep w K H a m ∧ d = m.frz
section
variable {w : World} {K : PySem.W.Frag} {H H' : Hp} {v : V} {d : D}
theorem RdR.same (s : Same H H') (r : RdR w K H v d) : RdR w K H' v d := by
  rcases r with r | ⟨a, m, e, ⟨o, h, c⟩, e2⟩
  · exact .inl (Rep.mono (.same s) r)
  · exact .inr ⟨a, m, e, ⟨o, s _ _ h, c.mono (.same s)⟩, e2⟩
theorem RdR.int {i : Int} (r : RdR w K H v (.int i)) : v = .int i := by
  rcases r with r | ⟨a, m, _, _, e⟩
  · cases r; rfl
  · cases m <;> cases e
theorem RdR.bl {b : Bool} (r : RdR w K H v (.bl b)) : v = .bl b := by
  rcases r with r | ⟨a, m, _, _, e⟩
  · cases r; rfl
  · cases m <;> cases e
theorem RdR.str {x : Str} (r : RdR w K H v (.str x)) : v = .str x := by
  rcases r with r | ⟨a, m, _, _, e⟩
  · cases r; rfl
  · cases m <;> cases e
theorem RdR.non (r : RdR w K H v .non) : v = .non := by
  rcases r with r | ⟨a, m, _, _, e⟩
  · cases r; rfl
  · cases m <;> cases e
theorem RdR.tup {ds : List D} (r : RdR w K H v (.tup ds)) : ∃ a vs, v = .ref a ∧ SqT K H a vs ∧ Reps w K H vs ds := by
  rcases r with r | ⟨a, m, _, _, e⟩
  · cases r with
    | tup s r => exact ⟨_, _, rfl, s, r⟩
  · cases m <;> cases e
theorem RdR.lst {ds : List D} (r : RdR w K H v (.lst ds)) : ∃ a vs, v = .ref a ∧ Rd H a (.lst vs) ∧ Reps w K H vs ds := by
  rcases r with r | ⟨a, m, e, ⟨o, h, c⟩, e2⟩
  · cases r with
    | lst s r => exact ⟨_, _, rfl, .inr ⟨_, s⟩, r⟩
  · cases m with
    | lst es =>
      injection e2 with e2
      subst e2
      obtain ⟨vs, rfl, r⟩ := c
      exact ⟨a, vs, e, .inl h, r⟩
    | dic es => cases e2
    | dicK es => cases e2
theorem RdR.dic {ks : List NestedKey} {ds : List D} (r : RdR w K H v (.dic ks ds)) :
    ∃ (a : Addr) (ents : List Ent), v = .ref a ∧ Rd H a (dO w a ents) ∧ ents.map (·.1) = ks ∧ Reps w K H (ents.map fun e => V.ref e.2.1) (kds ks) ∧ Reps w K H (ents.map (·.2.2)) ds ∧ ∀ k ∈ ks, k.depth ≤ 8 := by
  rcases r with r | ⟨a, m, e, ⟨o, h, c⟩, e2⟩
  · cases r with
    | dic ents s e r1 r2 z => exact ⟨_, ents, rfl, .inr ⟨_, s⟩, e, r1, r2, z⟩
  · cases m with
    | lst es => cases e2
    | dic es =>
      injection e2 with e2 e3
      subst e2 e3
      obtain ⟨ents, rfl, e4, r1, r2, z⟩ := c
      exact ⟨a, ents, e, .inl h, e4, r1, r2, z⟩
    | dicK es => cases e2
theorem RdR.dicK {ks : List Key} {ds : List D} (r : RdR w K H v (.dicK ks ds)) : ∃ (a : Addr) (kvs : List (Key × V)), v = .ref a ∧ Rd H a (.dK kvs) ∧ kvs.map (·.1) = ks ∧ Reps w K H (kvs.map (·.2)) ds := by
  rcases r with r | ⟨a, m, e, ⟨o, h, c⟩, e2⟩
  · cases r with
    | dicK kvs s e r => exact ⟨_, kvs, rfl, .inr ⟨_, s⟩, e, r⟩
  · cases m with
    | lst es => cases e2
    | dic es => cases e2
    | dicK es =>
      injection e2 with e2 e3
      subst e2 e3
      obtain ⟨kvs, rfl, e4, r⟩ := c
      exact ⟨a, kvs, e, .inl h, e4, r⟩
theorem RdR.list {ds : List D} (r : RdR w K H v (.lst ds)) : ∃ a vs, v = .ref a ∧ SqL K H a vs ∧ Reps w K H vs ds := by
  obtain ⟨a, vs, e, h, r⟩ := r.lst
  exact ⟨a, vs, e, .inl h, r⟩
end

/-! ### the judgements -/
def EvG {α : Type} (X : Cx) (e : Expr) (R : Hp → Hp → V → α → Prop) (f : DSt → Option α) : Prop :=
  ∃ t : TE, PE X e t ∧ ∀ (G : Hp) (σD : DSt) (σV : L2.St) (H : Hp) (Q : VK) (a : α), DRel X.w X.K G σD σV H → f σD = some a → (∀ v H', Same H H' → R H H' v a → Q v H') → t σV H Q
/-- a value that lasts -/
abbrev DE (X : Cx) (e : Expr) (f : DSt → Option D) : Prop := EvG X e (fun _ H' v d => Rep X.w X.K H' v d) f
/-- a value that may be read now -/
abbrev DR (X : Cx) (e : Expr) (f : DSt → Option D) : Prop := EvG X e (fun _ H' v d => RdR X.w X.K H' v d) f
/-- a new list or dict -/
abbrev DN (X : Cx) (e : Expr) (f : DSt → Option MO) : Prop := EvG X e (fun H H' v m => ∃ a, v = .ref a ∧ H a = none ∧ MRep X.w X.K H' a m) f
def DT (X : Cx) (e : Expr) (f : DSt → Option Bool) : Prop :=
  ∃ t : TT, PT X e t ∧ ∀ (G : Hp) (σD : DSt) (σV : L2.St) (H : Hp) (Q : Bool → Hp → Prop) (b : Bool), DRel X.w X.K G σD σV H → f σD = some b → (∀ H', Same H H' → Q b H') → t σV H Q
def DW (X : Cx) (e : Expr) (f : DSt → Option Bool) : Prop :=
  ∃ t : TT, PW X e t ∧ ∀ (G : Hp) (σD : DSt) (σV : L2.St) (H : Hp) (Q : Bool → Hp → Prop) (b : Bool), DRel X.w X.K G σD σV H → f σD = some b → (∀ H', Same H H' → Q b H') → t σV H Q
/-- arguments -/
def AvG {α : Type} (X : Cx) (es : List Expr) (R : Hp → V → α → Prop) (f : DSt → Option (List α)) : Prop :=
  ∃ t : TA, PA X es t ∧ (∀ σ as, f σ = some as → as.length = es.length) ∧
    ∀ (G : Hp) (σD : DSt) (σV : L2.St) (H : Hp) (Q : List V → Hp → Prop) (as : List α), DRel X.w X.K G σD σV H → f σD = some as → (∀ vs H', Same H H' → Paired (R H') vs as → Q vs H') → t σV H Q
abbrev DA (X : Cx) (es : List Expr) (f : DSt → Option (List D)) : Prop := AvG X es (fun H' v d => Rep X.w X.K H' v d) f
abbrev DAR (X : Cx) (es : List Expr) (f : DSt → Option (List D)) : Prop := AvG X es (fun H' v d => RdR X.w X.K H' v d) f

theorem reps_of {w : World} {K : PySem.W.Frag} {H : Hp} : ∀ {vs : List V} {ds : List D}, Paired (fun v d => Rep w K H v d) vs ds → Reps w K H vs ds
  | _, _, .nil => .nil
  | _, _, .cons r t => .cons r (reps_of t)
theorem of_reps {w : World} {K : PySem.W.Frag} {H : Hp} : ∀ {vs : List V} {ds : List D}, Reps w K H vs ds → Paired (fun v d => Rep w K H v d) vs ds
  | _, _, .nil => .nil
  | _, _, .cons r t => .cons r (of_reps t)
theorem upd_same_of {H : Hp} {p : Addr} {o : HO} (h : H p = none) : Same H (upd H p o) := fun b x e => by
  rw [upd_ne (ne_of_none e h)]
  exact e

section
variable {X : Cx} {pos : Pos}
/-! ### weakenings -/
theorem de_dr {e : Expr} {f : DSt → Option D} (h : DE X e f) : DR X e f := by
  obtain ⟨t, pe, p⟩ := h
  exact ⟨t, pe, fun G σD σV H Q a r e q => p G σD σV H Q a r e fun v H' s rp => q v H' s (.inl rp)⟩
def fFrz (f : DSt → Option MO) : DSt → Option D := fun σ => (f σ).map MO.frz
theorem dn_dr {e : Expr} {f : DSt → Option MO} (h : DN X e f) : DR X e (fFrz f) := by
  obtain ⟨t, pe, p⟩ := h
  refine ⟨t, pe, fun G σD σV H Q a r e q => ?_⟩
  obtain ⟨m, e1, rfl⟩ := Option.map_eq_some_iff.mp e
  exact p G σD σV H Q m r e1 fun v H' s ⟨a, e2, _, rp⟩ => q v H' s (.inr ⟨a, m, e2, rp, rfl⟩)
/-- the value, a list or dict, is locked for good -/
def tFreezeE (t : TE) : TE := fun σ H Q => t σ H fun v H' => ∃ a u, v = .ref a ∧ H' a = some u ∧ Mut (some u) ∧ ∀ od, Q v (upd H' a (.frz od u))
theorem pe_freeze {e : Expr} {t : TE} (h : PE X e t) : PE X e (tFreezeE t) := by
  refine ⟨fun pins s σ H Q I hw => ?_⟩
  refine thn (h.run pins s σ H _ I hw) fun v s1 ⟨x, H1, I1, r1, a, u, e1, hu, mu, q⟩ => ?_
  obtain ⟨od, I2⟩ := I1.lock hu mu
  exact ⟨x, _, I2, r1, q od⟩
theorem dn_de {e : Expr} {f : DSt → Option MO} (h : DN X e f) : DE X e (fFrz f) := by
  obtain ⟨t, pe, p⟩ := h
  refine ⟨_, pe_freeze pe, fun G σD σV H Q d r e q => ?_⟩
  obtain ⟨m, e1, rfl⟩ := Option.map_eq_some_iff.mp e
  refine p G σD σV H _ m r e1 fun v H' s ⟨a, e2, n, o, ho, c⟩ => ⟨a, o, e2, ho, c.mut, fun od => ?_⟩
  subst e2
  refine q _ _ (fun b x hb => ?_) ((c.mono (.write ho c.mut)).rep upd_same)
  rw [upd_ne (ne_of_none hb n)]
  exact s b x hb

/-! ### names, constants -/
def fVar (i : Nat) : DSt → Option D := fun σ => match σ[i]? with
  | some (some (.im d)) => some d
  | _ => none
def fVarR (i : Nat) : DSt → Option D := fun σ => match σ[i]? with
  | some (some (.im d)) => some d
  | some (some (.mu m)) => some m.frz
  | _ => none
theorem fVar_some {i : Nat} {σ : DSt} {d : D} (h : fVar i σ = some d) : σ[i]? = some (some (.im d)) := by
  unfold fVar at h
  split at h
  · rename_i e
    cases h
    exact e
  · cases h
theorem dv (i : Nat) {x : Str} (hN : X.N[i]? = some x := by rfl) (hv : Vis X.env.scope x := by first | exact Or.inl rfl | exact Or.inr (Or.inl rfl) | exact Or.inr (Or.inr rfl)) (hd : (x == ("__debug__" : Str)) = false := by decide)
    (hcd : (x == ("__classdict__" : Str)) = false := by decide) : DE X (.Name x pos) (fVar i) := by
  refine ⟨tVar i, pe_var hN hv hd hcd, fun G σD σV H Q d r e q => ?_⟩
  obtain ⟨v, e1, rp⟩ := r.im (fVar_some e)
  exact ⟨v, e1, q v H (Same.refl H) rp⟩
theorem dvR (i : Nat) {x : Str} (hN : X.N[i]? = some x := by rfl) (hv : Vis X.env.scope x := by first | exact Or.inl rfl | exact Or.inr (Or.inl rfl) | exact Or.inr (Or.inr rfl)) (hd : (x == ("__debug__" : Str)) = false := by decide)
    (hcd : (x == ("__classdict__" : Str)) = false := by decide) : DR X (.Name x pos) (fVarR i) := by
  refine ⟨tVar i, pe_var hN hv hd hcd, fun G σD σV H Q d r e q => ?_⟩
  unfold fVarR at e
  split at e
  · rename_i d' e0
    cases e
    obtain ⟨v, e1, rp⟩ := r.im e0
    exact ⟨v, e1, q v H (Same.refl H) (.inl rp)⟩
  · rename_i m e0
    cases e
    obtain ⟨a, e1, _, rp⟩ := r.mu e0
    exact ⟨_, e1, q _ H (Same.refl H) (.inr ⟨a, m, rfl, rp, rfl⟩)⟩
  · cases e
def fC (d : D) : DSt → Option D := fun _ => some d
theorem d_int {i : Int} {j} : DE X (.Constant (.int i) j pos) (fC (.int i)) := ⟨_, pe_int, fun G σD σV H Q d r e q => by cases e; exact q _ H (Same.refl H) (.int i)⟩
theorem d_bl {b : Bool} {j} : DE X (.Constant (.bool b) j pos) (fC (.bl b)) := ⟨_, pe_bl, fun G σD σV H Q d r e q => by cases e; exact q _ H (Same.refl H) (.bl b)⟩
theorem d_non {j} : DE X (.Constant .none j pos) (fC .non) := ⟨_, pe_non, fun G σD σV H Q d r e q => by cases e; exact q _ H (Same.refl H) .non⟩
theorem d_str {x : Str} {j} : DE X (.Constant (.str x) j pos) (fC (.str x)) := ⟨_, pe_str, fun G σD σV H Q d r e q => by cases e; exact q _ H (Same.refl H) (.str x)⟩
theorem d_glob {x : Str} {v : V} {u : Value} {d : D} (hg : Gl X x) (hm : X.mg x = some u) (r : RelV v u) (hd : ∀ H, Rep X.w X.K H v d) (hdb : (x == ("__debug__" : Str)) = false := by decide) : DE X (.Name x pos) (fC d) :=
  ⟨_, pe_glob hg hm r hdb, fun G σD σV H Q d' _ e q => by cases e; exact q _ H (Same.refl H) (hd H)⟩

/-! ### arguments, displays -/
theorem paired_mono {α β : Type} {F G : α → β → Prop} (h : ∀ a b, F a b → G a b) : ∀ {l : List α} {m : List β}, Paired F l m → Paired G l m
  | _, _, .nil => .nil
  | _, _, .cons r t => .cons (h _ _ r) (paired_mono h t)
def fNil {α : Type} : DSt → Option (List α) := fun _ => some []
def fCons {α : Type} (f : DSt → Option α) (g : DSt → Option (List α)) : DSt → Option (List α) := fun σ => (f σ).bind fun a => (g σ).bind fun as => some (a :: as)
theorem av_nil {α : Type} {R : Hp → V → α → Prop} : AvG X [] R fNil := ⟨_, pa_nil, fun σ as e => by cases e; rfl, fun G σD σV H Q as r e q => by cases e; exact q _ H (Same.refl H) .nil⟩
theorem av_cons {α : Type} {R : Hp → V → α → Prop} {e : Expr} {es : List Expr} {f : DSt → Option α} {g : DSt → Option (List α)} (mono : ∀ H H' v a, Same H H' → R H v a → R H' v a) (he : EvG X e (fun _ H' v a => R H' v a) f) (hr : AvG X es R g)
    (hs : starEach (e :: es) X.env = (false, eval e X.env) :: starEach es X.env := by rfl) : AvG X (e :: es) R (fCons f g) := by
  obtain ⟨t, pe, p⟩ := he
  obtain ⟨u, pa, pl, q⟩ := hr
  refine ⟨_, pa_cons pe pa hs, fun σ as e => ?_, fun G σD σV H Q as r e k => ?_⟩
  · obtain ⟨a, e1, e⟩ := Option.bind_eq_some_iff.mp e
    obtain ⟨as', e2, e⟩ := Option.bind_eq_some_iff.mp e
    cases e
    rw [List.length_cons, List.length_cons, pl σ as' e2]
  · obtain ⟨a, e1, e⟩ := Option.bind_eq_some_iff.mp e
    obtain ⟨as', e2, e⟩ := Option.bind_eq_some_iff.mp e
    cases e
    refine p G σD σV H _ a r e1 fun v H1 s1 r1 => ?_
    exact q G σD σV H1 _ as' (r.grow s1) e2 fun vs H2 s2 r2 => k _ _ (s1.trans s2) (.cons (mono _ _ _ _ s2 r1) r2)
theorem da_cons {e : Expr} {es : List Expr} {f : DSt → Option D} {g : DSt → Option (List D)} (he : DE X e f) (hr : DA X es g)
    (hs : starEach (e :: es) X.env = (false, eval e X.env) :: starEach es X.env := by rfl) : DA X (e :: es) (fCons f g) := av_cons (fun H H' v a s r => Rep.mono (.same s) r) he hr hs
theorem dar_cons {e : Expr} {es : List Expr} {f : DSt → Option D} {g : DSt → Option (List D)} (he : DR X e f) (hr : DAR X es g)
    (hs : starEach (e :: es) X.env = (false, eval e X.env) :: starEach es X.env := by rfl) : DAR X (e :: es) (fCons f g) := av_cons (fun H H' v a s r => r.same s) he hr hs
theorem da_nil : DA X [] fNil := av_nil
theorem dar_nil : DAR X [] fNil := av_nil
theorem small_line {n : Nat} (h : n ≤ 1000) : n ≤ sizeLine := by rw [sizeLine_eq]; omega
def fTup (f : DSt → Option (List D)) : DSt → Option D := fun σ => (f σ).map D.tup
theorem d_tup {es : List Expr} {k} {f : DSt → Option (List D)} (h : DA X es f) (hl : es.length ≤ 1000 := by decide) : DE X (.Tuple es k pos) (fTup f) := by
  obtain ⟨t, pa, pl, p⟩ := h
  refine ⟨_, pe_tup pa, fun G σD σV H Q d r e q => ?_⟩
  obtain ⟨ds, e1, rfl⟩ := Option.map_eq_some_iff.mp e
  refine p G σD σV H _ ds r e1 fun vs H1 s1 r1 => ⟨?_, fun a ha => ?_⟩
  · rw [(reps_of r1).length, pl _ _ e1]
    exact small_line hl
  · exact q _ _ (s1.trans (upd_same_of ha)) (.tup (.of upd_same) ((reps_of r1).mono (.new ha)))
def fLst (f : DSt → Option (List D)) : DSt → Option MO := fun σ => (f σ).map MO.lst
theorem d_lst {es : List Expr} {f : DSt → Option (List D)} (h : DA X es f) (hl : es.length ≤ 1000 := by decide) : DN X (.List es pos) (fLst f) := by
  obtain ⟨t, pa, pl, p⟩ := h
  refine ⟨_, pe_lst pa, fun G σD σV H Q d r e q => ?_⟩
  obtain ⟨ds, e1, rfl⟩ := Option.map_eq_some_iff.mp e
  refine p G σD σV H _ ds r e1 fun vs H1 s1 r1 => ⟨?_, fun a ha => ?_⟩
  · rw [(reps_of r1).length, pl _ _ e1]
    exact small_line hl
  · exact q _ _ (s1.trans (upd_same_of ha)) ⟨a, rfl, s1.free ha, _, upd_same, vs, rfl, (reps_of r1).mono (.new ha)⟩

/-! ### operators -/
def OpD (X : Cx) (f : Value → Value → Sem Value) (g : D → D → Option D) : Prop :=
  ∃ r : R2, OpR X f r ∧ ∀ (H : Hp) (x y : V) (dx dy d : D) (Q : VK), RdR X.w X.K H x dx → RdR X.w X.K H y dy → g dx dy = some d → (∀ v H', Same H H' → Rep X.w X.K H' v d → Q v H') → r x y H Q
def fOp (g : D → D → Option D) (f1 f2 : DSt → Option D) : DSt → Option D := fun σ => (f1 σ).bind fun x => (f2 σ).bind fun y => g x y
theorem d_bin {op : Operator} {a b : Expr} {g : D → D → Option D} {f1 f2 : DSt → Option D} (ho : OpD X (binaryOp op) g) (ha : DR X a f1) (hb : DR X b f2) : DE X (.BinOp a op b pos) (fOp g f1 f2) := by
  obtain ⟨r, po, pr⟩ := ho
  obtain ⟨t, pe, p⟩ := ha
  obtain ⟨u, pe2, p2⟩ := hb
  refine ⟨_, pe_op po pe pe2, fun G σD σV H Q d rl e q => ?_⟩
  obtain ⟨x, e1, e⟩ := Option.bind_eq_some_iff.mp e
  obtain ⟨y, e2, e⟩ := Option.bind_eq_some_iff.mp e
  refine p G σD σV H _ x rl e1 fun v H1 s1 r1 => ?_
  refine p2 G σD σV H1 _ y (rl.grow s1) e2 fun v2 H2 s2 r2 => ?_
  exact pr H2 v v2 x y d Q (r1.same s2) r2 e fun v3 H3 s3 r3 => q v3 H3 ((s1.trans s2).trans s3) r3
theorem d_cmp {op : CmpOp} {a b : Expr} {g : D → D → Option D} {f1 f2 : DSt → Option D} (ho : OpD X (compareOp op) g) (ha : DR X a f1) (hb : DR X b f2) (hm : behindInMarks op b = false := by first | exact nomark _ | rfl) : DE X (.Compare a [op] [b] pos) (fOp g f1 f2) := by
  obtain ⟨r, po, pr⟩ := ho
  obtain ⟨t, pe, p⟩ := ha
  obtain ⟨u, pe2, p2⟩ := hb
  refine ⟨_, pe_cmpR po pe pe2 hm, fun G σD σV H Q d rl e q => ?_⟩
  obtain ⟨x, e1, e⟩ := Option.bind_eq_some_iff.mp e
  obtain ⟨y, e2, e⟩ := Option.bind_eq_some_iff.mp e
  refine p G σD σV H _ x rl e1 fun v H1 s1 r1 => ?_
  refine p2 G σD σV H1 _ y (rl.grow s1) e2 fun v2 H2 s2 r2 => ?_
  exact pr H2 v v2 x y d Q (r1.same s2) r2 e fun v3 H3 s3 r3 => q v3 H3 ((s1.trans s2).trans s3) r3
def D.asBl : D → Option Bool
  | .bl b => some b
  | _ => none
def D.asInt : D → Option Int
  | .int i => some i
  | _ => none
def D.asTup : D → Option (List D)
  | .tup xs => some xs
  | _ => none
def D.asLst : D → Option (List D)
  | .lst xs => some xs
  | _ => none
def D.asSeq : D → Option (List D)
  | .lst xs => some xs
  | .tup xs => some xs
  | _ => none
theorem asBl_some {d : D} {b : Bool} (h : d.asBl = some b) : d = .bl b := by cases d <;> cases h <;> rfl
theorem asInt_some {d : D} {i : Int} (h : d.asInt = some i) : d = .int i := by cases d <;> cases h <;> rfl
theorem asTup_some {d : D} {xs : List D} (h : d.asTup = some xs) : d = .tup xs := by cases d <;> cases h <;> rfl
theorem asLst_some {d : D} {xs : List D} (h : d.asLst = some xs) : d = .lst xs := by cases d <;> cases h <;> rfl
def fBl (f : DSt → Option D) : DSt → Option Bool := fun σ => (f σ).bind D.asBl
theorem rep_bl {w : World} {K : PySem.W.Frag} {H : Hp} {v : V} {b : Bool} (r : Rep w K H v (.bl b)) : v = .bl b := by cases r; rfl
/-- a comparison as a test -/
theorem dt_cmp {op : CmpOp} {a b : Expr} {g : D → D → Option D} {f1 f2 : DSt → Option D} (ho : OpD X (compareOp op) g) (ha : DR X a f1) (hb : DR X b f2) (hm : behindInMarks op b = false := by first | exact nomark _ | rfl) : DT X (.Compare a [op] [b] pos) (fBl (fOp g f1 f2)) := by
  obtain ⟨r, po, pr⟩ := ho
  obtain ⟨t, pe, p⟩ := ha
  obtain ⟨u, pe2, p2⟩ := hb
  refine ⟨_, pt_cmpR po pe pe2 hm, fun G σD σV H Q c rl e q => ?_⟩
  obtain ⟨d, e, e0⟩ := Option.bind_eq_some_iff.mp e
  have e0 := asBl_some e0
  subst e0
  obtain ⟨x, e1, e⟩ := Option.bind_eq_some_iff.mp e
  obtain ⟨y, e2, e⟩ := Option.bind_eq_some_iff.mp e
  refine p G σD σV H _ x rl e1 fun v H1 s1 r1 => ?_
  refine p2 G σD σV H1 _ y (rl.grow s1) e2 fun v2 H2 s2 r2 => ?_
  exact pr H2 v v2 x y _ _ (r1.same s2) r2 e fun v3 H3 s3 r3 => ⟨c, rep_bl r3, q H3 ((s1.trans s2).trans s3)⟩
/-- a bool value as a test -/
theorem dt_val {e : Expr} {f : DSt → Option D} (h : DE X e f) (he : ∀ whole, isTrue e X.env whole = (do let v ← whole; standAt e.pos; holding [v] (truthy v)) := by intro _; rfl) : DT X e (fBl f) := by
  obtain ⟨t, pe, p⟩ := h
  refine ⟨_, pt_val pe he, fun G σD σV H Q c rl e q => ?_⟩
  obtain ⟨d, e, e0⟩ := Option.bind_eq_some_iff.mp e
  have e0 := asBl_some e0
  subst e0
  exact p G σD σV H _ _ rl e fun v H1 s1 r1 => ⟨c, rep_bl r1, q H1 s1⟩
/-! ints -/
def gI (k : Int → Int → D) : D → D → Option D := fun x y => x.asInt.bind fun i => y.asInt.bind fun j => some (k i j)
theorem od_I {f : Value → Value → Sem Value} {g : Int → Int → V} {k : Int → Int → D} (ho : OpR X f (rI0 g)) (hk : ∀ i j H, Rep X.w X.K H (g i j) (k i j)) : OpD X f (gI k) := by
  refine ⟨_, ho, fun H x y dx dy d Q rx ry e q => ?_⟩
  obtain ⟨i, e1, e⟩ := Option.bind_eq_some_iff.mp e
  obtain ⟨j, e2, e⟩ := Option.bind_eq_some_iff.mp e
  cases e
  rw [asInt_some e1] at rx
  rw [asInt_some e2] at ry
  exact ⟨i, j, rx.int, ry.int, q _ H (Same.refl H) (hk i j H)⟩
theorem od_add : OpD X (binaryOp .Add) (gI fun i j => .int (i + j)) := od_I op_add fun i j H => .int _
theorem od_sub : OpD X (binaryOp .Sub) (gI fun i j => .int (i - j)) := od_I op_sub fun i j H => .int _
theorem od_lt : OpD X (compareOp .Lt) (gI fun i j => .bl (decide (i < j))) := od_I op_lt fun i j H => .bl _
theorem od_le : OpD X (compareOp .LtE) (gI fun i j => .bl (decide (i ≤ j))) := od_I op_le fun i j H => .bl _
theorem od_gt : OpD X (compareOp .Gt) (gI fun i j => .bl (decide (j < i))) := od_I op_gt fun i j H => .bl _
theorem od_ge : OpD X (compareOp .GtE) (gI fun i j => .bl (decide (j ≤ i))) := od_I op_ge fun i j H => .bl _
/-! is None -/
def D.isNon : D → Bool
  | .non => true
  | _ => false
theorem isNon_iff {w : World} {K : PySem.W.Frag} {H : Hp} {v : V} {d : D} (r : RdR w K H v d) : decide (v = .non) = d.isNon := by
  rcases r with r | ⟨a, m, e, _, e2⟩
  · cases r <;> rfl
  · subst e
    cases m <;> subst e2 <;> rfl
def gIsN (k : Bool → Bool) : D → D → Option D := fun x y => if y.isNon then some (.bl (k x.isNon)) else none
theorem non_of {d : D} (h : d.isNon = true) : d = .non := by cases d <;> first | rfl | cases h
theorem od_isN : OpD X (compareOp .Is) (gIsN fun b => b) := by
  refine ⟨_, op_isN, fun H x y dx dy d Q rx ry e q => ?_⟩
  unfold gIsN at e
  split at e
  · rename_i h
    cases e
    rw [non_of h] at ry
    refine ⟨ry.non, ?_⟩
    rw [isNon_iff rx]
    exact q _ H (Same.refl H) (.bl _)
  · cases e
theorem od_notN : OpD X (compareOp .IsNot) (gIsN fun b => !b) := by
  refine ⟨_, op_notN, fun H x y dx dy d Q rx ry e q => ?_⟩
  unfold gIsN at e
  split at e
  · rename_i h
    cases e
    rw [non_of h] at ry
    refine ⟨ry.non, ?_⟩
    rw [isNon_iff rx]
    exact q _ H (Same.refl H) (.bl _)
  · cases e
/-! == of data -/
mutual
def D.py : D → Option PyData
  | .non => some .none
  | .bl b => some (.bool b)
  | .int i => some (.int i)
  | .str x => some (.str x)
  | .tup xs => (pys xs).map .tuple
  | .lst xs => (pys xs).map .list
  | .dic _ _ => none
  | .dicK _ _ => none
  | .adr _ => none
def pys : List D → Option (List PyData)
  | [] => some []
  | x :: xs => match x.py, pys xs with
    | some d, some ds => some (d :: ds)
    | _, _ => none
end
section
variable {w : World} {K : PySem.W.Frag} {H : Hp}
mutual
theorem dp_of : ∀ {d : D} {v : V} {p : PyData}, Rep w K H v d → d.py = some p → Dp K H v p
  | .non, _, _, r, e => by rw [D.py] at e; cases e; cases r; exact .non
  | .bl b, _, _, r, e => by rw [D.py] at e; cases e; cases r; exact .bl b
  | .int i, _, _, r, e => by rw [D.py] at e; cases e; cases r; exact .int i
  | .str x, _, _, r, e => by rw [D.py] at e; cases e; cases r; exact .str x
  | .tup xs, _, _, r, e => by
    rw [D.py] at e
    obtain ⟨ps, e1, rfl⟩ := Option.map_eq_some_iff.mp e
    cases r with
    | tup s r => exact .tup s (dps_of r e1)
  | .lst xs, _, _, r, e => by
    rw [D.py] at e
    obtain ⟨ps, e1, rfl⟩ := Option.map_eq_some_iff.mp e
    cases r with
    | lst s r => exact .lst (.inl (.inr ⟨_, s⟩)) (dps_of r e1)
  | .dic _ _, _, _, r, e => by rw [D.py] at e; cases e
  | .dicK _ _, _, _, r, e => by rw [D.py] at e; cases e
  | .adr _, _, _, r, e => by rw [D.py] at e; cases e
theorem dps_of : ∀ {ds : List D} {vs : List V} {ps : List PyData}, Reps w K H vs ds → pys ds = some ps → DpAll K H vs ps
  | [], _, _, r, e => by rw [pys] at e; cases e; cases r; exact .nil
  | d :: ds, _, _, r, e => by
    rw [pys] at e
    split at e
    · rename_i p ps e1 e2
      cases e
      cases r with
      | cons r1 r2 => exact .cons (dp_of r1 e1) (dps_of r2 e2)
    · cases e
end
theorem dpr_of {d : D} {v : V} {p : PyData} (r : RdR w K H v d) (e : d.py = some p) : Dp K H v p := by
  rcases r with r | ⟨a, m, e1, ⟨o, h, c⟩, e2⟩
  · exact dp_of r e
  · subst e1 e2
    cases m with
    | lst ds =>
      obtain ⟨vs, rfl, r⟩ := c
      rw [MO.frz, D.py] at e
      obtain ⟨ps, e3, rfl⟩ := Option.map_eq_some_iff.mp e
      exact .lst (.of h) (dps_of r e3)
    | dic es => rw [MO.frz, D.py] at e; cases e
    | dicK es => rw [MO.frz, D.py] at e; cases e
end
def gEq (k : Bool → Bool) : D → D → Option D := fun x y => x.py.bind fun p => y.py.bind fun q => if SeqAt.shaped p = true ∧ SeqAt.shaped q = true then some (.bl (k (PyData.eqv p q))) else none
theorem od_eq (hu : X.A.units + 64 < cLine) : OpD X (compareOp .Eq) (gEq fun b => b) := by
  refine ⟨_, op_eqD hu, fun H x y dx dy d Q rx ry e q => ?_⟩
  obtain ⟨p1, e1, e⟩ := Option.bind_eq_some_iff.mp e
  obtain ⟨p2, e2, e⟩ := Option.bind_eq_some_iff.mp e
  split at e
  · rename_i h
    cases e
    exact ⟨p1, p2, dpr_of rx e1, dpr_of ry e2, h.1, h.2, q _ H (Same.refl H) (.bl _)⟩
  · cases e
theorem od_ne (hu : X.A.units + 64 < cLine) : OpD X (compareOp .NotEq) (gEq fun b => !b) := by
  refine ⟨_, op_neD hu, fun H x y dx dy d Q rx ry e q => ?_⟩
  obtain ⟨p1, e1, e⟩ := Option.bind_eq_some_iff.mp e
  obtain ⟨p2, e2, e⟩ := Option.bind_eq_some_iff.mp e
  split at e
  · rename_i h
    cases e
    exact ⟨p1, p2, dpr_of rx e1, dpr_of ry e2, h.1, h.2, q _ H (Same.refl H) (.bl _)⟩
  · cases e
/-! tuples of ints: < -/
def asInts : List D → Option (List Int)
  | [] => some []
  | d :: ds => d.asInt.bind fun i => (asInts ds).bind fun is => some (i :: is)
theorem asInts_some : ∀ {ds : List D} {is : List Int}, asInts ds = some is → ds = is.map D.int
  | [], is, h => by cases h; rfl
  | d :: ds, is, h => by
    obtain ⟨i, e1, h⟩ := Option.bind_eq_some_iff.mp h
    obtain ⟨js, e2, h⟩ := Option.bind_eq_some_iff.mp h
    cases h
    rw [asInt_some e1, asInts_some e2]
    rfl
theorem asInts_map : ∀ is : List Int, asInts (is.map D.int) = some is
  | [] => rfl
  | i :: is => by rw [List.map_cons, asInts, asInts_map is] <;> rfl
def gLtT : D → D → Option D := fun x y => x.asTup.bind fun xs => y.asTup.bind fun ys => (asInts xs).bind fun ns => (asInts ys).bind fun ms => some (.bl (HT.lexLt ns ms))
theorem od_ltT (hu : X.A.units < cLine) : OpD X (compareOp .Lt) gLtT := by
  refine ⟨_, op_ltT hu, fun H x y dx dy d Q rx ry e q => ?_⟩
  obtain ⟨xs, e1, e⟩ := Option.bind_eq_some_iff.mp e
  obtain ⟨ys, e2, e⟩ := Option.bind_eq_some_iff.mp e
  obtain ⟨ns, e3, e⟩ := Option.bind_eq_some_iff.mp e
  obtain ⟨ms, e4, e⟩ := Option.bind_eq_some_iff.mp e
  cases e
  rw [asTup_some e1, asInts_some e3] at rx
  rw [asTup_some e2, asInts_some e4] at ry
  obtain ⟨a, vs, rfl, sa, ra⟩ := rx.tup
  obtain ⟨b, us, rfl, sb, rb⟩ := ry.tup
  rw [ra.ints] at sa
  rw [rb.ints] at sb
  exact ⟨a, b, ns, ms, rfl, rfl, sa, sb, q _ H (Same.refl H) (.bl _)⟩
/-! tuple + tuple -/
def gCatT : D → D → Option D := fun x y => x.asTup.bind fun xs => y.asTup.bind fun ys => if xs.length + ys.length ≤ 1000 then some (.tup (xs ++ ys)) else none
theorem od_catT : OpD X (binaryOp .Add) gCatT := by
  refine ⟨_, op_catA, fun H x y dx dy d Q rx ry e q => ?_⟩
  obtain ⟨xs, e1, e⟩ := Option.bind_eq_some_iff.mp e
  obtain ⟨ys, e2, e⟩ := Option.bind_eq_some_iff.mp e
  split at e
  · rename_i hl
    cases e
    rw [asTup_some e1] at rx
    rw [asTup_some e2] at ry
    obtain ⟨a, vs, rfl, sa, ra⟩ := rx.tup
    obtain ⟨b, us, rfl, sb, rb⟩ := ry.tup
    refine ⟨a, b, vs, us, rfl, rfl, sa, sb, by rw [ra.length, rb.length]; exact small_line hl, fun hx => ?_, fun hx hy => ?_, fun hx hy p hp => ?_⟩
    · subst hx
      cases ra
      exact q _ H (Same.refl H) (.tup sb rb)
    · subst hy
      cases rb
      rw [List.append_nil] at q
      exact q _ H (Same.refl H) (.tup sa ra)
    · exact q _ _ (upd_same_of hp) (.tup (.of upd_same) ((ra.append rb).mono (.new hp)))
  · cases e
/-! x in seq, of flat things -/
def D.flat : D → Option V
  | .non => some .non
  | .bl b => some (.bl b)
  | .int i => some (.int i)
  | .str x => some (.str x)
  | _ => none
def flats : List D → Option (List V)
  | [] => some []
  | d :: ds => d.flat.bind fun v => (flats ds).bind fun vs => some (v :: vs)
theorem flat_v {w : World} {K : PySem.W.Frag} {H : Hp} {v u : V} {d : D} (r : RdR w K H v d) (e : d.flat = some u) : v = u ∧ flatV v = true := by
  cases d with
  | non => cases e; exact ⟨r.non, by rw [r.non]; rfl⟩
  | bl b => cases e; exact ⟨r.bl, by rw [r.bl]; rfl⟩
  | int i => cases e; exact ⟨r.int, by rw [r.int]; rfl⟩
  | str x => cases e; exact ⟨r.str, by rw [r.str]; rfl⟩
  | tup _ => cases e
  | lst _ => cases e
  | dic _ _ => cases e
  | dicK _ _ => cases e
  | adr _ => cases e
theorem flats_v {w : World} {K : PySem.W.Frag} {H : Hp} : ∀ {ds : List D} {vs us : List V}, Reps w K H vs ds → flats ds = some us → vs = us ∧ vs.all flatV = true
  | [], _, _, r, e => by cases r; cases e; exact ⟨rfl, rfl⟩
  | d :: ds, _, _, r, e => by
    cases r with
    | cons r1 r2 =>
      obtain ⟨u, e1, e⟩ := Option.bind_eq_some_iff.mp e
      obtain ⟨us', e2, e⟩ := Option.bind_eq_some_iff.mp e
      cases e
      obtain ⟨h1, h2⟩ := flat_v (.inl r1) e1
      obtain ⟨h3, h4⟩ := flats_v r2 e2
      exact ⟨by rw [h1, h3], by rw [List.all_cons, h2, h4]; rfl⟩
def gIn (neg : Bool) : D → D → Option D := fun x y => x.flat.bind fun u => y.asSeq.bind fun ys => (flats ys).bind fun us => some (.bl (if neg then !inV u us else inV u us))
theorem seq_of {w : World} {K : PySem.W.Frag} {H : Hp} {v : V} {d : D} {ys : List D} (r : RdR w K H v d) (e : d.asSeq = some ys) : ∃ p xs, v = .ref p ∧ (SqL K H p xs ∨ SqT K H p xs) ∧ Reps w K H xs ys := by
  cases d with
  | tup xs =>
    cases e
    obtain ⟨a, vs, rfl, s, rp⟩ := r.tup
    exact ⟨a, vs, rfl, .inr s, rp⟩
  | lst xs =>
    cases e
    obtain ⟨a, vs, rfl, s, rp⟩ := r.list
    exact ⟨a, vs, rfl, .inl s, rp⟩
  | non => cases e
  | bl b => cases e
  | int i => cases e
  | str x => cases e
  | dic _ _ => cases e
  | dicK _ _ => cases e
  | adr _ => cases e
theorem od_in : OpD X (compareOp .In) (gIn false) := by
  refine ⟨_, op_in_seq, fun H x y dx dy d Q rx ry e q => ?_⟩
  obtain ⟨u, e1, e⟩ := Option.bind_eq_some_iff.mp e
  obtain ⟨ys, e2, e⟩ := Option.bind_eq_some_iff.mp e
  obtain ⟨us, e3, e⟩ := Option.bind_eq_some_iff.mp e
  cases e
  obtain ⟨h1, h2⟩ := flat_v rx e1
  obtain ⟨p, xs, rfl, s, rp⟩ := seq_of ry e2
  obtain ⟨h3, h4⟩ := flats_v rp e3
  subst h1 h3
  exact ⟨p, xs, rfl, s, h2, h4, q _ H (Same.refl H) (.bl _)⟩
theorem od_notIn : OpD X (compareOp .NotIn) (gIn true) := by
  refine ⟨_, op_notIn_seq, fun H x y dx dy d Q rx ry e q => ?_⟩
  obtain ⟨u, e1, e⟩ := Option.bind_eq_some_iff.mp e
  obtain ⟨ys, e2, e⟩ := Option.bind_eq_some_iff.mp e
  obtain ⟨us, e3, e⟩ := Option.bind_eq_some_iff.mp e
  cases e
  obtain ⟨h1, h2⟩ := flat_v rx e1
  obtain ⟨p, xs, rfl, s, rp⟩ := seq_of ry e2
  obtain ⟨h3, h4⟩ := flats_v rp e3
  subst h1 h3
  exact ⟨p, xs, rfl, s, h2, h4, q _ H (Same.refl H) (.bl _)⟩

/-! ### and, or, not, if -/
variable {a b c : Expr} {rest : List Expr}
def fAnd (f g : DSt → Option Bool) : DSt → Option Bool := fun σ => (f σ).bind fun x => if x = true then g σ else some false
def fOr (f g : DSt → Option Bool) : DSt → Option Bool := fun σ => (f σ).bind fun x => if x = true then some true else g σ
def fNot (f : DSt → Option Bool) : DSt → Option Bool := fun σ => (f σ).map fun x => !x
theorem dw_pt {e : Expr} {f : DSt → Option Bool} (h : DW X e f) : DT X e f := by
  obtain ⟨t, pw, p⟩ := h
  exact ⟨t, pw.pt, p⟩
theorem dw_and1 {f : DSt → Option Bool} (h : DT X a f) : DW X (.BoolOp .And [a] pos) f := by
  obtain ⟨t, pt, p⟩ := h
  exact ⟨t, pw_and1 pt, p⟩
theorem dw_or1 {f : DSt → Option Bool} (h : DT X a f) : DW X (.BoolOp .Or [a] pos) f := by
  obtain ⟨t, pt, p⟩ := h
  exact ⟨t, pw_or1 pt, p⟩
theorem dw_and {f g : DSt → Option Bool} (h : DT X a f) (h2 : DW X (.BoolOp .And (b :: rest) pos) g) : DW X (.BoolOp .And (a :: b :: rest) pos) (fAnd f g) := by
  obtain ⟨t, pt, p⟩ := h
  obtain ⟨u, pu, p2⟩ := h2
  refine ⟨_, pw_and pt pu, fun G σD σV H Q k r e q => ?_⟩
  obtain ⟨x, e1, e⟩ := Option.bind_eq_some_iff.mp e
  refine p G σD σV H _ x r e1 fun H1 s1 => ?_
  cases x with
  | true =>
    rw [if_pos rfl] at e ⊢
    exact p2 G σD σV H1 _ k (r.grow s1) e fun H2 s2 => q H2 (s1.trans s2)
  | false =>
    rw [if_neg Bool.false_ne_true] at e ⊢
    cases e
    exact q H1 s1
theorem dw_or {f g : DSt → Option Bool} (h : DT X a f) (h2 : DW X (.BoolOp .Or (b :: rest) pos) g) : DW X (.BoolOp .Or (a :: b :: rest) pos) (fOr f g) := by
  obtain ⟨t, pt, p⟩ := h
  obtain ⟨u, pu, p2⟩ := h2
  refine ⟨_, pw_or pt pu, fun G σD σV H Q k r e q => ?_⟩
  obtain ⟨x, e1, e⟩ := Option.bind_eq_some_iff.mp e
  refine p G σD σV H _ x r e1 fun H1 s1 => ?_
  cases x with
  | true =>
    rw [if_pos rfl] at e ⊢
    cases e
    exact q H1 s1
  | false =>
    rw [if_neg Bool.false_ne_true] at e ⊢
    exact p2 G σD σV H1 _ k (r.grow s1) e fun H2 s2 => q H2 (s1.trans s2)
theorem dt_not {f : DSt → Option Bool} (h : DT X a f) : DT X (.UnaryOp .Not a pos) (fNot f) := by
  obtain ⟨t, pt, p⟩ := h
  refine ⟨_, pt_not pt, fun G σD σV H Q k r e q => ?_⟩
  obtain ⟨x, e1, rfl⟩ := Option.map_eq_some_iff.mp e
  exact p G σD σV H _ x r e1 fun H1 s1 => q H1 s1
/-- as values -/
def fAndV (f g : DSt → Option D) : DSt → Option D := fun σ => ((f σ).bind D.asBl).bind fun x => if x = true then g σ else some (.bl false)
def fOrV (f g : DSt → Option D) : DSt → Option D := fun σ => ((f σ).bind D.asBl).bind fun x => if x = true then some (.bl true) else g σ
def fNotV (f : DSt → Option D) : DSt → Option D := fun σ => ((f σ).bind D.asBl).bind fun x => some (.bl (!x))
theorem d_one {op} {f : DSt → Option D} (h : DE X a f) : DE X (.BoolOp op [a] pos) f := by
  obtain ⟨t, pe, p⟩ := h
  exact ⟨t, pe_one pe, p⟩
theorem d_and {f g : DSt → Option D} (h : DE X a f) (h2 : DE X (.BoolOp .And (b :: rest) pos) g) : DE X (.BoolOp .And (a :: b :: rest) pos) (fAndV f g) := by
  obtain ⟨t, pt, p⟩ := h
  obtain ⟨u, pu, p2⟩ := h2
  refine ⟨_, pe_and pt pu, fun G σD σV H Q k r e q => ?_⟩
  obtain ⟨x, e1, e⟩ := Option.bind_eq_some_iff.mp e
  obtain ⟨d, e0, e1⟩ := Option.bind_eq_some_iff.mp e1
  have e1 := asBl_some e1
  subst e1
  refine p G σD σV H _ _ r e0 fun v H1 s1 r1 => ⟨x, rep_bl r1, ?_⟩
  cases x with
  | true =>
    rw [if_pos rfl] at e ⊢
    exact p2 G σD σV H1 _ k (r.grow s1) e fun v H2 s2 r2 => q v H2 (s1.trans s2) r2
  | false =>
    rw [if_neg Bool.false_ne_true] at e ⊢
    cases e
    exact q _ H1 s1 (.bl _)
theorem d_or {f g : DSt → Option D} (h : DE X a f) (h2 : DE X (.BoolOp .Or (b :: rest) pos) g) : DE X (.BoolOp .Or (a :: b :: rest) pos) (fOrV f g) := by
  obtain ⟨t, pt, p⟩ := h
  obtain ⟨u, pu, p2⟩ := h2
  refine ⟨_, pe_or pt pu, fun G σD σV H Q k r e q => ?_⟩
  obtain ⟨x, e1, e⟩ := Option.bind_eq_some_iff.mp e
  obtain ⟨d, e0, e1⟩ := Option.bind_eq_some_iff.mp e1
  have e1 := asBl_some e1
  subst e1
  refine p G σD σV H _ _ r e0 fun v H1 s1 r1 => ⟨x, rep_bl r1, ?_⟩
  cases x with
  | true =>
    rw [if_pos rfl] at e ⊢
    cases e
    exact q _ H1 s1 (.bl _)
  | false =>
    rw [if_neg Bool.false_ne_true] at e ⊢
    exact p2 G σD σV H1 _ k (r.grow s1) e fun v H2 s2 r2 => q v H2 (s1.trans s2) r2
theorem d_not {f : DSt → Option D} (h : DE X a f) : DE X (.UnaryOp .Not a pos) (fNotV f) := by
  obtain ⟨t, pt, p⟩ := h
  refine ⟨_, pe_not pt, fun G σD σV H Q k r e q => ?_⟩
  obtain ⟨x, e1, e⟩ := Option.bind_eq_some_iff.mp e
  obtain ⟨d, e0, e1⟩ := Option.bind_eq_some_iff.mp e1
  have e1 := asBl_some e1
  subst e1
  cases e
  exact p G σD σV H _ _ r e0 fun v H1 s1 r1 => ⟨x, rep_bl r1, q _ H1 s1 (.bl _)⟩
def fIf (c : DSt → Option Bool) (f g : DSt → Option D) : DSt → Option D := fun σ => (c σ).bind fun x => if x = true then f σ else g σ
theorem d_if {k : DSt → Option Bool} {f g : DSt → Option D} (hc : DT X c k) (h : DE X a f) (h2 : DE X b g) : DE X (.IfExp c a b pos) (fIf k f g) := by
  obtain ⟨tc, pc, p0⟩ := hc
  obtain ⟨t, pt, p⟩ := h
  obtain ⟨u, pu, p2⟩ := h2
  refine ⟨_, pe_ifExp pc pt pu, fun G σD σV H Q d r e q => ?_⟩
  obtain ⟨x, e1, e⟩ := Option.bind_eq_some_iff.mp e
  refine p0 G σD σV H _ x r e1 fun H1 s1 => ?_
  cases x with
  | true =>
    rw [if_pos rfl] at e ⊢
    exact p G σD σV H1 _ d (r.grow s1) e fun v H2 s2 r2 => q v H2 (s1.trans s2) r2
  | false =>
    rw [if_neg Bool.false_ne_true] at e ⊢
    exact p2 G σD σV H1 _ d (r.grow s1) e fun v H2 s2 r2 => q v H2 (s1.trans s2) r2
/-- a op b op c of ints -/
def fChain (g g' : D → D → Option D) (f1 f2 f3 : DSt → Option D) : DSt → Option D := fun σ => (f1 σ).bind fun x => (f2 σ).bind fun y => ((g x y).bind D.asBl).bind fun k => if k = true then (f3 σ).bind fun z => g' y z else some (.bl false)
end
end Deep
set_option maxRecDepth 100000
set_option maxHeartbeats 4000000
namespace Deep
open PySem PySem.Spec PyProof.Rows L2

section
variable {X : Cx} {pos : Pos}
/-! ### chains, minus -/
theorem d_chain {op op' : CmpOp} {a b c : Expr} {g g' : D → D → Option D} {f1 f2 f3 : DSt → Option D} (ho : OpD X (compareOp op) g) (ho' : OpD X (compareOp op') g') (ha : DR X a f1) (hb : DR X b f2) (hc : DR X c f3)
    (hm : lastMarks [op, op'] [b, c] = false := by with_unfolding_all rfl) : DE X (.Compare a [op, op'] [b, c] pos) (fChain g g' f1 f2 f3) := by
  obtain ⟨r, po, pr⟩ := ho
  obtain ⟨r', po', pr'⟩ := ho'
  obtain ⟨t, pe, p⟩ := ha
  obtain ⟨u, pe2, p2⟩ := hb
  obtain ⟨w', pe3, p3⟩ := hc
  refine ⟨_, pe_chain po po' pe pe2 pe3 hm, fun G σD σV H Q d rl e q => ?_⟩
  obtain ⟨x, e1, e⟩ := Option.bind_eq_some_iff.mp e
  obtain ⟨y, e2, e⟩ := Option.bind_eq_some_iff.mp e
  obtain ⟨k, e3, e⟩ := Option.bind_eq_some_iff.mp e
  obtain ⟨dk, e3, e4⟩ := Option.bind_eq_some_iff.mp e3
  have e4 := asBl_some e4
  subst e4
  refine p G σD σV H _ x rl e1 fun v H1 s1 r1 => ?_
  refine p2 G σD σV H1 _ y (rl.grow s1) e2 fun v2 H2 s2 r2 => ?_
  refine pr H2 v v2 x y _ _ (r1.same s2) r2 e3 fun v3 H3 s3 r3 => ⟨k, rep_bl r3, ?_⟩
  cases k with
  | true =>
    rw [if_pos rfl] at e ⊢
    obtain ⟨z, e5, e⟩ := Option.bind_eq_some_iff.mp e
    refine p3 G σD σV H3 _ z (((rl.grow s1).grow s2).grow s3) e5 fun v4 H4 s4 r4 => ?_
    exact pr' H4 v2 v4 y z d Q ((r2.same s3).same s4) r4 e fun v5 H5 s5 r5 => q v5 H5 ((((s1.trans s2).trans s3).trans s4).trans s5) r5
  | false =>
    rw [if_neg Bool.false_ne_true] at e ⊢
    cases e
    exact q _ H3 ((s1.trans s2).trans s3) (.bl _)
def fNeg (f : DSt → Option D) : DSt → Option D := fun σ => ((f σ).bind D.asInt).map fun i => D.int (-i)
theorem d_neg {a : Expr} {f : DSt → Option D} (h : DE X a f) : DE X (.UnaryOp .USub a pos) (fNeg f) := by
  obtain ⟨t, pe, p⟩ := h
  refine ⟨_, pe_un un_neg pe, fun G σD σV H Q d rl e q => ?_⟩
  obtain ⟨i, e3, rfl⟩ := Option.map_eq_some_iff.mp e
  obtain ⟨x, e1, e4⟩ := Option.bind_eq_some_iff.mp e3
  have e4 := asInt_some e4
  subst e4
  exact p G σD σV H _ _ rl e1 fun v H1 s1 r1 => ⟨i, RdR.int (.inl r1), q _ H1 s1 (.int _)⟩

/-! ### a place of a list, of a tuple -/
def gIx (x y : D) : Option D := x.asSeq.bind fun xs => y.asInt.bind fun i => atI xs i
theorem atI_reps {w : World} {K : PySem.W.Frag} {H : Hp} {vs : List V} {ds : List D} {i : Int} {d : D} (r : Reps w K H vs ds) (h : atI ds i = some d) : ∃ v, atI vs i = some v ∧ Rep w K H v d := by
  unfold atI at h ⊢
  obtain ⟨j, e1, e2⟩ := Option.bind_eq_some_iff.mp h
  obtain ⟨v, e3, rv⟩ := r.get e2
  refine ⟨v, ?_, rv⟩
  rw [r.length, e1]
  exact e3
theorem d_ix {a b : Expr} {f1 f2 : DSt → Option D} (ha : DR X a f1) (hb : DR X b f2) (hs : PlainIx b := by exact fun _ _ => rfl) : DE X (.Subscript a b pos) (fOp gIx f1 f2) := by
  obtain ⟨t, pe, p⟩ := ha
  obtain ⟨u, pe2, p2⟩ := hb
  refine ⟨_, pe_ix (ix_list.or ix_tup) pe pe2 hs, fun G σD σV H Q d rl e q => ?_⟩
  obtain ⟨x, e1, e⟩ := Option.bind_eq_some_iff.mp e
  obtain ⟨y, e2, e⟩ := Option.bind_eq_some_iff.mp e
  obtain ⟨xs, e3, e⟩ := Option.bind_eq_some_iff.mp e
  obtain ⟨i, e4, e⟩ := Option.bind_eq_some_iff.mp e
  have e4 := asInt_some e4
  subst e4
  refine p G σD σV H _ x rl e1 fun v H1 s1 r1 => ?_
  refine p2 G σD σV H1 _ _ (rl.grow s1) e2 fun v2 H2 s2 r2 => ?_
  obtain ⟨a, vs, rfl, s, rp⟩ := seq_of (r1.same s2) e3
  obtain ⟨z, hz, rz⟩ := atI_reps rp e
  rcases s with s | s
  · exact .inl ⟨a, vs, i, z, rfl, r2.int, s, hz, q z H2 (s1.trans s2) rz⟩
  · exact .inr ⟨a, vs, i, z, rfl, r2.int, s, hz, q z H2 (s1.trans s2) rz⟩

/-! ### slices of tuples; xs[::-1] -/
def cutD (xs : List D) (lo hi : Option Int) : List D := (xs.drop (HT.sIx xs.length 0 lo)).take (HT.sIx xs.length xs.length hi - HT.sIx xs.length 0 lo)
theorem cut_reps {w : World} {K : PySem.W.Frag} {H : Hp} {vs : List V} {ds : List D} (lo hi : Option Int) (r : Reps w K H vs ds) : Reps w K H (cutV vs lo hi) (cutD ds lo hi) := by
  unfold cutV cutD
  rw [r.length]
  exact (r.drop _).take _
/-- a part of a slice -/
def DO (X : Cx) (e : Option Expr) (f : DSt → Option (Option Int)) : Prop :=
  ∃ t : TO, PO X e t ∧ ∀ (G : Hp) (σD : DSt) (σV : L2.St) (H : Hp) (Q : Option Int → Hp → Prop) (o : Option Int), DRel X.w X.K G σD σV H → f σD = some o → (∀ H', Same H H' → Q o H') → t σV H Q
def fNoPart : DSt → Option (Option Int) := fun _ => some none
def fPart (f : DSt → Option D) : DSt → Option (Option Int) := fun σ => ((f σ).bind D.asInt).map some
theorem do_none : DO X none fNoPart := ⟨_, po_none, fun G σD σV H Q o rl e q => by cases e; exact q H (Same.refl H)⟩
theorem do_some {e : Expr} {f : DSt → Option D} (h : DE X e f) : DO X (some e) (fPart f) := by
  obtain ⟨t, pe, p⟩ := h
  refine ⟨_, po_some pe, fun G σD σV H Q o rl e q => ?_⟩
  obtain ⟨i, e3, rfl⟩ := Option.map_eq_some_iff.mp e
  obtain ⟨x, e1, e4⟩ := Option.bind_eq_some_iff.mp e3
  have e4 := asInt_some e4
  subst e4
  exact p G σD σV H _ _ rl e1 fun v H1 s1 r1 => ⟨i, RdR.int (.inl r1), q H1 s1⟩
def fSlT (f : DSt → Option D) (l h : DSt → Option (Option Int)) : DSt → Option D := fun σ => ((f σ).bind D.asTup).bind fun xs => (l σ).bind fun lo => (h σ).bind fun hi => some (.tup (cutD xs lo hi))
theorem d_slT {e : Expr} {lo hi : Option Expr} {p2 : Pos} {f : DSt → Option D} {l h : DSt → Option (Option Int)} (he : DE X e f) (hl : DO X lo l) (hh : DO X hi h) : DE X (.Subscript e (.Slice lo hi none p2) pos) (fSlT f l h) := by
  obtain ⟨t, pe, p⟩ := he
  obtain ⟨tl, pl, ql⟩ := hl
  obtain ⟨th, ph, qh⟩ := hh
  refine ⟨_, pe_slice sl_tupA pe pl ph, fun G σD σV H Q d rl e q => ?_⟩
  obtain ⟨xs, e, e0⟩ := Option.bind_eq_some_iff.mp e
  obtain ⟨x, e1, e⟩ := Option.bind_eq_some_iff.mp e
  have e := asTup_some e
  subst e
  obtain ⟨o1, e2, e0⟩ := Option.bind_eq_some_iff.mp e0
  obtain ⟨o2, e3, e0⟩ := Option.bind_eq_some_iff.mp e0
  cases e0
  refine p G σD σV H _ _ rl e1 fun v H1 s1 r1 => ?_
  refine ql G σD σV H1 _ o1 (rl.grow s1) e2 fun H2 s2 => ?_
  refine qh G σD σV H2 _ o2 ((rl.grow s1).grow s2) e3 fun H3 s3 => ?_
  obtain ⟨a, vs, rfl, s, rp⟩ := RdR.tup (.inl (Rep.mono (.same (s2.trans s3)) r1))
  refine ⟨a, vs, rfl, s, fun hw => ?_, fun hw b hb => ?_⟩
  · refine q _ H3 ((s1.trans s2).trans s3) ?_
    have e4 : cutD xs o1 o2 = xs := by
      unfold cutD
      rw [← rp.length, hw.1, hw.2, Nat.sub_zero, List.drop_zero, rp.length, List.take_length]
    rw [e4]
    exact .tup s rp
  · exact q _ _ (((s1.trans s2).trans s3).trans (upd_same_of hb)) (.tup (.of upd_same) ((cut_reps o1 o2 rp).mono (.new hb)))
def fRev (f : DSt → Option D) : DSt → Option MO := fun σ => ((f σ).bind D.asLst).map fun xs => MO.lst xs.reverse
theorem d_rev {e : Expr} {k : Nat} {p1 p2 p3 : Pos} {f : DSt → Option D} (he : DR X e f) : DN X (.Subscript e (.Slice none none (some (.UnaryOp .USub (.Constant (.int 1) k p1) p2)) p3) pos) (fRev f) := by
  obtain ⟨t, pe, p⟩ := he
  refine ⟨_, pe_revL pe, fun G σD σV H Q d rl e q => ?_⟩
  obtain ⟨xs, e3, rfl⟩ := Option.map_eq_some_iff.mp e
  obtain ⟨x, e1, e4⟩ := Option.bind_eq_some_iff.mp e3
  have e4 := asLst_some e4
  subst e4
  refine p G σD σV H _ _ rl e1 fun v H1 s1 r1 => ?_
  obtain ⟨a, vs, rfl, s, rp⟩ := r1.list
  exact ⟨a, vs, rfl, s, fun b hb => q _ _ (s1.trans (upd_same_of hb)) ⟨b, rfl, s1.free hb, _, upd_same, _, rfl, rp.reverse.mono (.new hb)⟩⟩

/-! ### list + list, list * int: new lists -/
def fCat (f1 f2 : DSt → Option D) : DSt → Option MO := fun σ => ((f1 σ).bind D.asLst).bind fun xs => ((f2 σ).bind D.asLst).bind fun ys => if xs.length + ys.length ≤ 100000 then some (.lst (xs ++ ys)) else none
/-- xs + ys, each its own list or a locked one -/
def rCatR : R2 := fun x y H Q => ∃ l b xs zs, x = .ref l ∧ y = .ref b ∧ Rd H l (.lst xs) ∧ Rd H b (.lst zs) ∧ xs.length + zs.length ≤ sizeLine ∧ ∀ p, H p = none → Q (.ref p) (upd H p (.lst (xs ++ zs)))
theorem line_of {n : Nat} (h : n ≤ 100000) : n ≤ sizeLine := by rw [sizeLine_eq]; omega
theorem line_lt {n : Nat} (h : n < 100000) : n < sizeLine := by rw [sizeLine_eq]; omega
theorem Inv.lstR {pins : List (Addr × Obj)} {σ : L2.St} {H : Hp} {s : Shared} {l : Addr} {xs : List V} (I : Inv X pins σ H s) (h : Rd H l (.lst xs)) :
    xs.length ≤ sizeLine ∧ ∃ (its : List Value) (n : Nat), Vals xs its ∧ xs.length = its.length ∧ s.heap.get? l = some { cls := .type "list", data := .seq its.toArray n } := by
  obtain ⟨z, its, n, r, e⟩ := h.ok I.hok
  exact ⟨z, its, n, r, r.length, e⟩
theorem op_catR : OpR X (binaryOp .Add) rCatR := by
  intro pins s σ H x y v u Q I rx ry h
  obtain ⟨l, b, xs, zs, rfl, rfl, hl, hb, hz, q⟩ := h
  cases rx
  cases ry
  obtain ⟨z1, its, n, r, hl1, e⟩ := Inv.lstR I hl
  obtain ⟨z2, its2, n2, r2, hl2, e2⟩ := Inv.lstR I hb
  refine PySem.P.add_list e e2 ?_ (by rw [List.size_toArray, List.size_toArray]; omega)
  have ea : its.toArray ++ its2.toArray = (its ++ its2).toArray := by simp
  rw [ea]
  exact ⟨.ref _, _, I.lnew (t' := s.toks) (r.append r2) (by rw [List.length_append]; omega), rfl, q _ I.fresh⟩
theorem d_cat {a b : Expr} {f1 f2 : DSt → Option D} (ha : DR X a f1) (hb : DR X b f2) : DN X (.BinOp a .Add b pos) (fCat f1 f2) := by
  obtain ⟨t, pe, p⟩ := ha
  obtain ⟨u, pe2, p2⟩ := hb
  refine ⟨_, pe_op op_catR pe pe2, fun G σD σV H Q m rl e q => ?_⟩
  obtain ⟨xs, e1, e⟩ := Option.bind_eq_some_iff.mp e
  obtain ⟨ys, e2, e⟩ := Option.bind_eq_some_iff.mp e
  obtain ⟨x, e1, h1⟩ := Option.bind_eq_some_iff.mp e1
  obtain ⟨y, e2, h2⟩ := Option.bind_eq_some_iff.mp e2
  have h1 := asLst_some h1
  have h2 := asLst_some h2
  subst h1 h2
  split at e
  · rename_i hl
    cases e
    refine p G σD σV H _ _ rl e1 fun v H1 s1 r1 => ?_
    refine p2 G σD σV H1 _ _ (rl.grow s1) e2 fun v2 H2 s2 r2 => ?_
    obtain ⟨a, vs, rfl, sa, ra⟩ := (r1.same s2).lst
    obtain ⟨b, us, rfl, sb, rb⟩ := r2.lst
    refine ⟨a, b, vs, us, rfl, rfl, sa, sb, by rw [ra.length, rb.length]; exact line_of hl, fun c hc => ?_⟩
    exact q _ _ ((s1.trans s2).trans (upd_same_of hc)) ⟨c, rfl, (s1.trans s2).free hc, _, upd_same, _, rfl, (ra.append rb).mono (.new hc)⟩
  · cases e
/-- [..] * k -/
def fRep (f1 : DSt → Option MO) (f2 : DSt → Option D) : DSt → Option MO := fun σ => (f1 σ).bind fun m => match m with
  | .lst xs => ((f2 σ).bind D.asInt).bind fun k => if 0 ≤ k ∧ k ≤ 1000 ∧ xs.length ≤ 10 then some (.lst (List.replicate k.toNat xs).flatten) else none
  | _ => none
theorem Reps.rep {w : World} {K : PySem.W.Frag} {H : Hp} {vs : List V} {ds : List D} (r : Reps w K H vs ds) : ∀ k : Nat, Reps w K H (List.replicate k vs).flatten (List.replicate k ds).flatten
  | 0 => .nil
  | k + 1 => by
    rw [List.replicate_succ, List.replicate_succ, List.flatten_cons, List.flatten_cons]
    exact r.append (Reps.rep r k)
theorem d_rep {a b : Expr} {f1 : DSt → Option MO} {f2 : DSt → Option D} (ha : DN X a f1) (hb : DE X b f2) : DN X (.BinOp a .Mult b pos) (fRep f1 f2) := by
  obtain ⟨t, pe, p⟩ := ha
  obtain ⟨u, pe2, p2⟩ := hb
  refine ⟨_, pe_op op_rep pe pe2, fun G σD σV H Q m rl e q => ?_⟩
  obtain ⟨m1, e1, e⟩ := Option.bind_eq_some_iff.mp e
  cases m1 with
  | lst xs =>
    obtain ⟨k, e2, e⟩ := Option.bind_eq_some_iff.mp e
    obtain ⟨y, e2, h2⟩ := Option.bind_eq_some_iff.mp e2
    have h2 := asInt_some h2
    subst h2
    split at e
    · rename_i hk
      obtain ⟨k0, k1, hl⟩ := hk
      cases e
      refine p G σD σV H _ _ rl e1 fun v H1 s1 ⟨c, ev, nc, o, ho, vs, eo, rp⟩ => ?_
      subst ev eo
      refine p2 G σD σV H1 _ _ (rl.grow s1) e2 fun v2 H2 s2 r2 => ?_
      refine ⟨c, k, vs, rfl, RdR.int (.inl r2), s2 _ _ ho, by omega, by omega, ?_, fun b hb => ?_⟩
      · rw [rp.length, sizeLine_eq]
        have : xs.length * k.toNat ≤ 10 * 1000 := Nat.mul_le_mul hl (by omega)
        omega
      · exact q _ _ ((s1.trans s2).trans (upd_same_of hb)) ⟨b, rfl, (s1.trans s2).free hb, _, upd_same, _, rfl, Reps.rep (rp.mono ((Kept.same s2).trans (.new hb))) _⟩
    · cases e
  | dic es => cases e
  | dicK es => cases e

/-! ### calls of built-ins -/
def CallD (X : Cx) (f : Value) (g : List D → Option D) : Prop :=
  ∃ r : List V → Hp → VK → Prop, CallR X f r ∧ ∀ (H : Hp) (vs : List V) (ds : List D) (d : D) (Q : VK), Paired (fun v d => RdR X.w X.K H v d) vs ds → g ds = some d → (∀ v H', Same H H' → Rep X.w X.K H' v d → Q v H') → r vs H Q
def CallN (X : Cx) (f : Value) (g : List D → Option MO) : Prop :=
  ∃ r : List V → Hp → VK → Prop, CallR X f r ∧ ∀ (H : Hp) (vs : List V) (ds : List D) (m : MO) (Q : VK), Paired (fun v d => RdR X.w X.K H v d) vs ds → g ds = some m → (∀ a H', Same H H' → H a = none → MRep X.w X.K H' a m → Q (.ref a) H') → r vs H Q
def fCall {α : Type} (g : List D → Option α) (f : DSt → Option (List D)) : DSt → Option α := fun σ => (f σ).bind g
section
variable {x : Str} {p : Pos} {e : Expr} {es : List Expr} {id T : String} {f : DSt → Option (List D)}
theorem d_callB {g : List D → Option D} (hc : CallD X (.builtin id) g) (hg : Gl X x) (hm : X.mg x = none) (hv : bootBuiltins x = some (.builtin id)) (ha : DAR X (e :: es) f) (hn : x ≠ "__name__" := by decide) (hdb : (x == ("__debug__" : Str)) = false := by decide)
    (he : starEach (e :: es) X.env = (false, eval e X.env) :: starEach es X.env := by rfl) (hpl : (backTo pos (starEach es X.env)).any (·.1) = false := by rfl) : DE X (.Call (.Name x p) (e :: es) [] pos) (fCall g f) := by
  obtain ⟨r, cr, pr⟩ := hc
  obtain ⟨t, pa, pl, q1⟩ := ha
  refine ⟨_, pe_callB cr hg hm hv pa hn hdb he hpl, fun G σD σV H Q d rl e q => ?_⟩
  obtain ⟨ds, e1, e⟩ := Option.bind_eq_some_iff.mp e
  exact q1 G σD σV H _ ds rl e1 fun vs H1 s1 r1 => pr H1 vs ds d Q r1 e fun v H2 s2 r2 => q v H2 (s1.trans s2) r2
theorem d_callTy {g : List D → Option D} (hc : CallD X (.type T) g) (hg : Gl X x) (hm : X.mg x = none) (hv : bootBuiltins x = some (.type T)) (ha : DAR X (e :: es) f) (hn : x ≠ "__name__" := by decide) (hdb : (x == ("__debug__" : Str)) = false := by decide)
    (he : starEach (e :: es) X.env = (false, eval e X.env) :: starEach es X.env := by rfl) (hpl : (backTo pos (starEach es X.env)).any (·.1) = false := by rfl) : DE X (.Call (.Name x p) (e :: es) [] pos) (fCall g f) := by
  obtain ⟨r, cr, pr⟩ := hc
  obtain ⟨t, pa, pl, q1⟩ := ha
  refine ⟨_, pe_callTy cr hg hm hv pa hn hdb he hpl, fun G σD σV H Q d rl e q => ?_⟩
  obtain ⟨ds, e1, e⟩ := Option.bind_eq_some_iff.mp e
  exact q1 G σD σV H _ ds rl e1 fun vs H1 s1 r1 => pr H1 vs ds d Q r1 e fun v H2 s2 r2 => q v H2 (s1.trans s2) r2
theorem d_callBN {g : List D → Option MO} (hc : CallN X (.builtin id) g) (hg : Gl X x) (hm : X.mg x = none) (hv : bootBuiltins x = some (.builtin id)) (ha : DAR X (e :: es) f) (hn : x ≠ "__name__" := by decide) (hdb : (x == ("__debug__" : Str)) = false := by decide)
    (he : starEach (e :: es) X.env = (false, eval e X.env) :: starEach es X.env := by rfl) (hpl : (backTo pos (starEach es X.env)).any (·.1) = false := by rfl) : DN X (.Call (.Name x p) (e :: es) [] pos) (fCall g f) := by
  obtain ⟨r, cr, pr⟩ := hc
  obtain ⟨t, pa, pl, q1⟩ := ha
  refine ⟨_, pe_callB cr hg hm hv pa hn hdb he hpl, fun G σD σV H Q d rl e q => ?_⟩
  obtain ⟨ds, e1, e⟩ := Option.bind_eq_some_iff.mp e
  exact q1 G σD σV H _ ds rl e1 fun vs H1 s1 r1 => pr H1 vs ds d Q r1 e fun a H2 s2 n r2 => q _ H2 (s1.trans s2) ⟨a, rfl, s1.free n, r2⟩
theorem d_callTyN {g : List D → Option MO} (hc : CallN X (.type T) g) (hg : Gl X x) (hm : X.mg x = none) (hv : bootBuiltins x = some (.type T)) (ha : DAR X (e :: es) f) (hn : x ≠ "__name__" := by decide) (hdb : (x == ("__debug__" : Str)) = false := by decide)
    (he : starEach (e :: es) X.env = (false, eval e X.env) :: starEach es X.env := by rfl) (hpl : (backTo pos (starEach es X.env)).any (·.1) = false := by rfl) : DN X (.Call (.Name x p) (e :: es) [] pos) (fCall g f) := by
  obtain ⟨r, cr, pr⟩ := hc
  obtain ⟨t, pa, pl, q1⟩ := ha
  refine ⟨_, pe_callTy cr hg hm hv pa hn hdb he hpl, fun G σD σV H Q d rl e q => ?_⟩
  obtain ⟨ds, e1, e⟩ := Option.bind_eq_some_iff.mp e
  exact q1 G σD σV H _ ds rl e1 fun vs H1 s1 r1 => pr H1 vs ds d Q r1 e fun a H2 s2 n r2 => q _ H2 (s1.trans s2) ⟨a, rfl, s1.free n, r2⟩
end
theorem one_of {w : World} {K : PySem.W.Frag} {H : Hp} {vs : List V} {d : D} (r : Paired (fun v d => RdR w K H v d) vs [d]) : ∃ v, vs = [v] ∧ RdR w K H v d := by
  cases r with
  | cons r t => cases t; exact ⟨_, rfl, r⟩
theorem two_of {w : World} {K : PySem.W.Frag} {H : Hp} {vs : List V} {d d2 : D} (r : Paired (fun v d => RdR w K H v d) vs [d, d2]) : ∃ v u, vs = [v, u] ∧ RdR w K H v d ∧ RdR w K H u d2 := by
  cases r with
  | cons r t =>
    cases t with
    | cons r2 t => cases t; exact ⟨_, _, rfl, r, r2⟩
/-! len of a list, a tuple -/
def gLen : List D → Option D
  | [d] => d.asSeq.map fun xs => D.int (xs.length : Nat)
  | _ => none
theorem cd_len : CallD X (.builtin "len") gLen := by
  refine ⟨_, call_len_seq, fun H vs ds d Q r e q => ?_⟩
  unfold gLen at e
  split at e
  · rename_i d0
    obtain ⟨xs, e1, rfl⟩ := Option.map_eq_some_iff.mp e
    obtain ⟨v, rfl, r1⟩ := one_of r
    obtain ⟨a, ys, rfl, s, rp⟩ := seq_of r1 e1
    refine ⟨a, ys, rfl, s, ?_⟩
    rw [rp.length]
    exact q _ H (Same.refl H) (.int _)
  · cases e
/-! max, min of two ints -/
def gMax2 : List D → Option D
  | [a, b] => a.asInt.bind fun i => b.asInt.bind fun j => some (.int (if j > i then j else i))
  | _ => none
def gMin2 : List D → Option D
  | [a, b] => a.asInt.bind fun i => b.asInt.bind fun j => some (.int (if j < i then j else i))
  | _ => none
theorem cd_max2 (hc : X.calm = true) : CallD X (.builtin "max") gMax2 := by
  refine ⟨_, call_max2 hc, fun H vs ds d Q r e q => ?_⟩
  unfold gMax2 at e
  split at e
  · rename_i a b
    obtain ⟨i, e1, e⟩ := Option.bind_eq_some_iff.mp e
    obtain ⟨j, e2, e⟩ := Option.bind_eq_some_iff.mp e
    cases e
    obtain ⟨v, u, rfl, r1, r2⟩ := two_of r
    rw [asInt_some e1] at r1
    rw [asInt_some e2] at r2
    rw [r1.int, r2.int]
    exact ⟨i, j, rfl, q _ H (Same.refl H) (.int _)⟩
  · cases e
theorem cd_min2 (hc : X.calm = true) : CallD X (.builtin "min") gMin2 := by
  refine ⟨_, call_min2 hc, fun H vs ds d Q r e q => ?_⟩
  unfold gMin2 at e
  split at e
  · rename_i a b
    obtain ⟨i, e1, e⟩ := Option.bind_eq_some_iff.mp e
    obtain ⟨j, e2, e⟩ := Option.bind_eq_some_iff.mp e
    cases e
    obtain ⟨v, u, rfl, r1, r2⟩ := two_of r
    rw [asInt_some e1] at r1
    rw [asInt_some e2] at r2
    rw [r1.int, r2.int]
    exact ⟨i, j, rfl, q _ H (Same.refl H) (.int _)⟩
  · cases e
/-! tuple(list), list(list), tuple(tuple) -/
def gTupOf : List D → Option D
  | [d] => d.asSeq.map D.tup
  | _ => none
theorem cd_tuple : CallD X (.type "tuple") gTupOf := by
  refine ⟨_, call_tuple_of, fun H vs ds d Q r e q => ?_⟩
  unfold gTupOf at e
  split at e
  · rename_i d0
    obtain ⟨xs, e1, rfl⟩ := Option.map_eq_some_iff.mp e
    obtain ⟨v, rfl, r1⟩ := one_of r
    obtain ⟨a, ys, rfl, s, rp⟩ := seq_of r1 e1
    rcases s with s | s
    · exact ⟨a, ys, rfl, .inl ⟨s, fun l hl => q _ _ (upd_same_of hl) (.tup (.of upd_same) (rp.mono (.new hl)))⟩⟩
    · exact ⟨a, ys, rfl, .inr ⟨s, q _ H (Same.refl H) (.tup s rp)⟩⟩
  · cases e
def gLstOf : List D → Option MO
  | [d] => d.asSeq.map MO.lst
  | _ => none
theorem cn_list : CallN X (.type "list") gLstOf := by
  refine ⟨_, call_list_of, fun H vs ds d Q r e q => ?_⟩
  unfold gLstOf at e
  split at e
  · rename_i d0
    obtain ⟨xs, e1, rfl⟩ := Option.map_eq_some_iff.mp e
    obtain ⟨v, rfl, r1⟩ := one_of r
    obtain ⟨a, ys, rfl, s, rp⟩ := seq_of r1 e1
    exact ⟨a, ys, rfl, s, fun l hl => q l _ (upd_same_of hl) hl ⟨_, upd_same, ys, rfl, rp.mono (.new hl)⟩⟩
  · cases e
/-! int of an int -/
def gIntOf : List D → Option D
  | [d] => d.asInt.map D.int
  | _ => none
theorem cd_int : CallD X (.type "int") gIntOf := by
  refine ⟨_, call_int1, fun H vs ds d Q r e q => ?_⟩
  unfold gIntOf at e
  split at e
  · rename_i d0
    obtain ⟨i, e1, rfl⟩ := Option.map_eq_some_iff.mp e
    obtain ⟨v, rfl, r1⟩ := one_of r
    rw [asInt_some e1] at r1
    rw [r1.int]
    exact .inl ⟨i, rfl, q _ H (Same.refl H) (.int _)⟩
  · cases e
/-! isinstance(x, T) -/
def D.tyName : D → Option String
  | .non => some "NoneType"
  | .bl _ => some "bool"
  | .int _ => some "int"
  | .str _ => some "str"
  | .tup _ => some "tuple"
  | _ => none
theorem tyX_of {w : World} {K : PySem.W.Frag} {H : Hp} {v : V} {d : D} {n : String} (r : RdR w K H v d) (e : d.tyName = some n) : TyX K H v (.type n) := by
  cases d with
  | non => cases e; rw [r.non]; exact .base .non
  | bl b => cases e; rw [r.bl]; exact .base (.bl b)
  | int i => cases e; rw [r.int]; exact .base (.int i)
  | str x => cases e; rw [r.str]; exact .base (.str x)
  | tup xs =>
    cases e
    obtain ⟨a, vs, rfl, s, _⟩ := r.tup
    rcases s with (s | ⟨o, s⟩) | ⟨o, its, k, h1, h2, _⟩
    · exact .base (.tup s)
    · exact .fTuple s
    · exact .kTuple h1 h2
  | lst _ => cases e
  | dic _ _ => cases e
  | dicK _ _ => cases e
  | adr _ => cases e
theorem tyX_kit {K : PySem.W.Frag} {a b : String} {r : Bool} (h : kitB a b = some r) : PySem.W.kitOne K (.type a) (.type b) = some r := kit_ty h
/-- isinstance(x, T), T a built-in class by its name -/
def fIsi (T : String) (f : DSt → Option D) : DSt → Option D := fun σ => (f σ).bind fun d => d.tyName.bind fun n => (kitB n T).map D.bl
theorem d_isi {a : Expr} {T : String} {x nm : Str} {p p2 : Pos} {f : DSt → Option D} (ha : DR X a f) (hg : Gl X x) (hm : X.mg x = none) (hv : bootBuiltins x = some (.builtin "isinstance")) (hg2 : Gl X nm) (hm2 : X.mg nm = none) (hv2 : bootBuiltins nm = some (.type T))
    (hcl : ClsV (.ty T) (.type T)) (hn : x ≠ "__name__" := by decide) (hdb : (x == ("__debug__" : Str)) = false := by decide) (hn2 : nm ≠ "__name__" := by decide) (hdb2 : (nm == ("__debug__" : Str)) = false := by decide)
    (he : starEach [a, .Name nm p2] X.env = (false, eval a X.env) :: starEach [.Name nm p2] X.env := by rfl) (he2 : starEach [.Name nm p2] X.env = (false, eval (.Name nm p2) X.env) :: starEach [] X.env := by rfl) (hpl : (backTo pos (starEach [.Name nm p2] X.env)).any (·.1) = false := by rfl) :
    DE X (.Call (.Name x p) [a, .Name nm p2] [] pos) (fIsi T f) := by
  obtain ⟨t, pe, q1⟩ := ha
  refine ⟨_, pe_callB call_isi hg hm hv (pa_cons pe (pa_cons (pe_bltn (v := .ty T) hg2 hm2 hv2 rfl hn2 hdb2) pa_nil he2) he) hn hdb he hpl, fun G σD σV H Q d rl e q => ?_⟩
  obtain ⟨dx, e1, e⟩ := Option.bind_eq_some_iff.mp e
  obtain ⟨n, e2, e⟩ := Option.bind_eq_some_iff.mp e
  obtain ⟨b, e3, rfl⟩ := Option.map_eq_some_iff.mp e
  refine q1 G σD σV H _ dx rl e1 fun v H1 s1 r1 => ?_
  exact ⟨v, .ty T, .type n, .type T, b, rfl, hcl, tyX_of r1 e2, tyX_kit e3, q _ H1 s1 (.bl b)⟩
end
end Deep
set_option maxRecDepth 100000
set_option maxHeartbeats 4000000
namespace Deep
open PySem PySem.Spec PyProof.Rows L2

/-! ### the least, the greatest, sorted: of data -/
def D.pyD (d : D) : PyData := d.py.getD .none
def okB (ps : List PyData) : Bool := (ps.all fun x => ps.all fun y => PySem.W.alike x y) && (ps.all fun x => match x with | .none => false | _ => true) && decide (PyData.depthAll ps ≤ 16)
def bestO (lt : PyData → PyData → Bool) : List D → Option D
  | [] => none
  | x :: xs => some (xs.foldl (fun a y => if lt y.pyD a.pyD = true then y else a) x)
mutual
theorem py_inj : ∀ {d e : D} {p : PyData}, d.py = some p → e.py = some p → d = e
  | .non, e, p, h, h2 => by
    rw [D.py] at h; cases h
    cases e with
    | non => rfl
    | tup ys => rw [D.py] at h2; obtain ⟨_, _, h3⟩ := Option.map_eq_some_iff.mp h2; cases h3
    | lst ys => rw [D.py] at h2; obtain ⟨_, _, h3⟩ := Option.map_eq_some_iff.mp h2; cases h3
    | _ => rw [D.py] at h2; cases h2
  | .bl b, e, p, h, h2 => by
    rw [D.py] at h; cases h
    cases e with
    | bl c => rw [D.py] at h2; cases h2; rfl
    | tup ys => rw [D.py] at h2; obtain ⟨_, _, h3⟩ := Option.map_eq_some_iff.mp h2; cases h3
    | lst ys => rw [D.py] at h2; obtain ⟨_, _, h3⟩ := Option.map_eq_some_iff.mp h2; cases h3
    | _ => rw [D.py] at h2; cases h2
  | .int i, e, p, h, h2 => by
    rw [D.py] at h; cases h
    cases e with
    | int c => rw [D.py] at h2; cases h2; rfl
    | tup ys => rw [D.py] at h2; obtain ⟨_, _, h3⟩ := Option.map_eq_some_iff.mp h2; cases h3
    | lst ys => rw [D.py] at h2; obtain ⟨_, _, h3⟩ := Option.map_eq_some_iff.mp h2; cases h3
    | _ => rw [D.py] at h2; cases h2
  | .str x, e, p, h, h2 => by
    rw [D.py] at h; cases h
    cases e with
    | str c => rw [D.py] at h2; cases h2; rfl
    | tup ys => rw [D.py] at h2; obtain ⟨_, _, h3⟩ := Option.map_eq_some_iff.mp h2; cases h3
    | lst ys => rw [D.py] at h2; obtain ⟨_, _, h3⟩ := Option.map_eq_some_iff.mp h2; cases h3
    | _ => rw [D.py] at h2; cases h2
  | .tup xs, e, p, h, h2 => by
    rw [D.py] at h
    obtain ⟨ps, h3, rfl⟩ := Option.map_eq_some_iff.mp h
    cases e with
    | tup ys =>
      rw [D.py] at h2
      obtain ⟨qs, h4, h5⟩ := Option.map_eq_some_iff.mp h2
      cases h5
      rw [pys_inj h3 h4]
    | lst ys => rw [D.py] at h2; obtain ⟨_, _, h3⟩ := Option.map_eq_some_iff.mp h2; cases h3
    | _ => rw [D.py] at h2; cases h2
  | .lst xs, e, p, h, h2 => by
    rw [D.py] at h
    obtain ⟨ps, h3, rfl⟩ := Option.map_eq_some_iff.mp h
    cases e with
    | lst ys =>
      rw [D.py] at h2
      obtain ⟨qs, h4, h5⟩ := Option.map_eq_some_iff.mp h2
      cases h5
      rw [pys_inj h3 h4]
    | tup ys => rw [D.py] at h2; obtain ⟨_, _, h3⟩ := Option.map_eq_some_iff.mp h2; cases h3
    | _ => rw [D.py] at h2; cases h2
  | .dic _ _, _, _, h, _ => by rw [D.py] at h; cases h
  | .dicK _ _, _, _, h, _ => by rw [D.py] at h; cases h
theorem pys_inj : ∀ {ds es : List D} {ps : List PyData}, pys ds = some ps → pys es = some ps → ds = es
  | [], es, ps, h, h2 => by
    rw [pys] at h; cases h
    cases es with
    | nil => rfl
    | cons e es =>
      rw [pys] at h2
      split at h2
      · cases h2
      · cases h2
  | d :: ds, es, ps, h, h2 => by
    rw [pys] at h
    split at h
    · rename_i p qs e1 e2
      cases h
      cases es with
      | nil => rw [pys] at h2; cases h2
      | cons e es =>
        rw [pys] at h2
        split at h2
        · rename_i p' qs' e3 e4
          cases h2
          rw [py_inj e1 e3, pys_inj e2 e4]
        · cases h2
    · cases h
end
theorem pys_cons {d : D} {ds : List D} {qs : List PyData} (h : pys (d :: ds) = some qs) : ∃ p ps, d.py = some p ∧ pys ds = some ps ∧ qs = p :: ps := by
  rw [pys] at h
  split at h
  · rename_i p ps e1 e2
    cases h
    exact ⟨p, ps, e1, e2, rfl⟩
  · cases h
theorem pys_len : ∀ {ds : List D} {ps : List PyData}, pys ds = some ps → ds.length = ps.length
  | [], _, h => by rw [pys] at h; cases h; rfl
  | d :: ds, _, h => by
    obtain ⟨p, ps, e1, e2, rfl⟩ := pys_cons h
    rw [List.length_cons, List.length_cons, pys_len e2]
theorem pys_get : ∀ {ds : List D} {ps : List PyData} {i : Nat} {d : D}, pys ds = some ps → ds[i]? = some d → ∃ p, ps[i]? = some p ∧ d.py = some p
  | [], _, _, _, _, h => by simp at h
  | d :: ds, _, 0, _, h, h2 => by
    obtain ⟨p, ps, e1, e2, rfl⟩ := pys_cons h
    simp at h2
    subst h2
    exact ⟨p, rfl, e1⟩
  | d :: ds, _, i + 1, e, h, h2 => by
    obtain ⟨p, ps, e1, e2, rfl⟩ := pys_cons h
    obtain ⟨q, e3, e4⟩ := pys_get (i := i) (d := e) e2 (by simpa using h2)
    exact ⟨q, by simpa using e3, e4⟩
theorem pys_map : ∀ {ds : List D} {ps : List PyData}, pys ds = some ps → ps = ds.map D.pyD ∧ ∀ d ∈ ds, d.py = some d.pyD
  | [], _, h => by rw [pys] at h; cases h; exact ⟨rfl, fun _ z => nomatch z⟩
  | d :: ds, _, h => by
    obtain ⟨p, ps, e1, e2, rfl⟩ := pys_cons h
    obtain ⟨h1, h2⟩ := pys_map e2
    have e3 : d.pyD = p := by unfold D.pyD; rw [e1]; rfl
    refine ⟨by rw [List.map_cons, e3, h1], fun e he => ?_⟩
    rcases List.mem_cons.mp he with rfl | he
    · rw [e3]; exact e1
    · exact h2 e he
theorem best_fold (lt : PyData → PyData → Bool) : ∀ {xs : List D} {ps : List PyData} {a : D} {p : PyData}, a.py = some p → pys xs = some ps →
    (xs.foldl (fun a y => if lt y.pyD a.pyD = true then y else a) a).py = some (ps.foldl (fun a y => if lt y a = true then y else a) p)
  | [], _, a, p, h, h2 => by rw [pys] at h2; cases h2; exact h
  | x :: xs, _, a, p, h, h2 => by
    obtain ⟨q, ps, e1, e2, rfl⟩ := pys_cons h2
    rw [List.foldl_cons, List.foldl_cons]
    have ex : x.pyD = q := by unfold D.pyD; rw [e1]; rfl
    have ea : a.pyD = p := by unfold D.pyD; rw [h]; rfl
    rw [ex, ea]
    refine best_fold lt ?_ e2
    split
    · exact e1
    · exact h
def okO (ds : List D) : Bool := match pys ds with
  | some ps => okB ps
  | none => false
theorem okB_alike {ps : List PyData} (h : okB ps = true) : PySem.W.AlikeAll ps ∧ PyData.depthAll ps ≤ 16 := by
  unfold okB at h
  rw [Bool.and_eq_true, Bool.and_eq_true] at h
  obtain ⟨⟨h1, h2⟩, h3⟩ := h
  refine ⟨⟨fun x hx y hy => List.all_eq_true.mp (List.all_eq_true.mp h1 x hx) y hy, fun x hx z => ?_⟩, of_decide_eq_true h3⟩
  have := List.all_eq_true.mp h2 x hx
  rw [z] at this
  cases this
theorem dpall_of {w : World} {K : PySem.W.Frag} {H : Hp} {vs : List V} {ds : List D} {ps : List PyData} (r : Reps w K H vs ds) (e : pys ds = some ps) : DpAll K H vs ps := dps_of r e
section
variable {X : Cx} {pos : Pos}
/-- the value found among those that read so -/
theorem found {w : World} {K : PySem.W.Frag} {H : Hp} {h h' : Heap} {vs : List V} {us : List Value} {ds : List D} {ps : List PyData} {as bs : List Addr} {i : Nat} {v : Value} {m : PyData} {d : D} (rp : Reps w K H vs ds) (rv : Vals vs us) (e : pys ds = some ps)
    (hr : ReadsAll h us ps as) (hk : ∀ b o, h.get? b = some o → h'.get? b = some o) (hv : us[i]? = some v) (hm : Reads h' v m bs) (hal : ∀ p ∈ ps, PySem.W.alike p m = true) (hd : d.py = some m) : ∃ x, RelV x v ∧ Rep w K H x d := by
  have hi : i < us.length := (List.getElem?_eq_some_iff.mp hv).1
  have hl : vs.length = us.length := rv.length
  obtain ⟨x, hx⟩ : ∃ x, vs[i]? = some x := ⟨vs[i], List.getElem?_eq_getElem (by omega)⟩
  obtain ⟨u, hu, ru⟩ := rv.get hx
  rw [hv] at hu
  cases hu
  obtain ⟨dx, hdx, rdx⟩ := rp.get' hx
  obtain ⟨p, hp, hpy⟩ := pys_get e hdx
  have rd : ∃ cs, Reads h v p cs := by
    obtain ⟨cs, q, _⟩ := PySem.W.readsAll_at hr i v hv
    rw [List.getD_eq_getElem?_getD, hp] at q
    exact ⟨cs, q⟩
  obtain ⟨cs, rd⟩ := rd
  have em : p = m := PySem.W.alike_unique _ _ _ _ _ (hal p (List.mem_of_getElem? hp)) (PyProof.Rows.Reads.keeps hk rd) hm
  rw [py_inj hd (em ▸ hpy)]
  exact ⟨x, ru, rdx⟩
theorem ltmin_eq (x : PyData) (xs : List PyData) : PySem.W.minD x xs = xs.foldl (fun a y => if PySem.W.dataLt y a = true then y else a) x := rfl
theorem ltmax_eq (x : PyData) (xs : List PyData) : PySem.W.maxD x xs = xs.foldl (fun a y => if PySem.W.dataLt a y = true then y else a) x := rfl
theorem fold_mem (lt : PyData → PyData → Bool) : ∀ (xs : List PyData) (x : PyData), xs.foldl (fun a y => if lt y a = true then y else a) x ∈ x :: xs
  | [], x => List.mem_cons_self
  | y :: ys, x => by
    rw [List.foldl_cons]
    have h := fold_mem lt ys (if lt y x = true then y else x)
    split at h
    · rcases List.mem_cons.mp h with e | h
      · rw [if_pos (by assumption), e]; exact List.mem_cons_of_mem _ List.mem_cons_self
      · rw [if_pos (by assumption)]; exact List.mem_cons_of_mem _ (List.mem_cons_of_mem _ h)
    · rcases List.mem_cons.mp h with e | h
      · rw [if_neg (by assumption), e]; exact List.mem_cons_self
      · rw [if_neg (by assumption)]; exact List.mem_cons_of_mem _ (List.mem_cons_of_mem _ h)
/-- max(xs), min(xs) of a list or a tuple of data -/
def gBest (lt : PyData → PyData → Bool) : List D → Option D
  | [d] => d.asSeq.bind fun xs => if okO xs = true then bestO lt xs else none
  | _ => none
def rBest (X : Cx) (lt : PyData → PyData → Bool) : List V → Hp → VK → Prop := fun vs H Q => ∃ (p : Addr) (xs : List V) (ds : List D) (d : D), vs = [V.ref p] ∧ (SqL X.K H p xs ∨ SqT X.K H p xs) ∧ Reps X.w X.K H xs ds ∧ okO ds = true ∧ bestO lt ds = some d ∧ ∀ v, Rep X.w X.K H v d → Q v H
theorem best_of {f : Value} {lt : PyData → PyData → Bool} (hc : CallR X f (rBest X lt)) : CallD X f (gBest lt) := by
  refine ⟨_, hc, fun H vs ds d Q r e q => ?_⟩
  unfold gBest at e
  split at e
  · rename_i d0
    obtain ⟨xs, e1, e⟩ := Option.bind_eq_some_iff.mp e
    split at e
    · rename_i ok
      obtain ⟨v, rfl, r1⟩ := one_of r
      obtain ⟨a, ys, rfl, s, rp⟩ := seq_of r1 e1
      exact ⟨a, ys, xs, d, rfl, s, rp, ok, e, fun v rv => q v H (Same.refl H) rv⟩
    · cases e
  · cases e
theorem ok_parts {ds : List D} (h : okO ds = true) : ∃ ps, pys ds = some ps ∧ okB ps = true := by
  unfold okO at h
  split at h
  · rename_i ps e
    exact ⟨ps, e, h⟩
  · cases h
theorem best_parts {lt : PyData → PyData → Bool} {ds : List D} {d : D} {ps : List PyData} (h : bestO lt ds = some d) (e : pys ds = some ps) : ∃ x xs, ps = x :: xs ∧ d.py = some (xs.foldl (fun a y => if lt y a = true then y else a) x) := by
  cases ds with
  | nil => cases h
  | cons a as =>
    cases h
    obtain ⟨p, qs, e1, e2, rfl⟩ := pys_cons e
    exact ⟨p, qs, rfl, best_fold lt e1 e2⟩
theorem deep_ok {A : Around} {ps : List PyData} (hu : A.units + 64 < cLine) (h : PyData.depthAll ps ≤ 16) : A.units + 1 + PyData.depthAll ps < cLine := by omega
theorem cd_min (hc : X.calm = true) (hu : X.A.units + 64 < cLine) : CallD X (.builtin "min") (gBest PySem.W.dataLt) := by
  refine best_of fun pins s σ H vs us Q I r h => ?_
  obtain ⟨p, xs, ds, d, rfl, hs, rp, ok, hb, q⟩ := h
  obtain ⟨ps, e1, e2⟩ := ok_parts ok
  obtain ⟨x, xs', e3, e4⟩ := best_parts hb e1
  subst e3
  obtain ⟨al, dp⟩ := okB_alike e2
  rw [Vals.ref1 r]
  have fin : ∀ {its : List Value} (rv : Vals xs its) {as bs : List Addr} {i : Nat} {v : Value} {h' : Heap} {tk : Nat}, ReadsAll s.heap its (x :: xs') as → its.toArray[i]? = some v → Reads h' v (PySem.W.minD x xs') bs → (∀ b o, s.heap.get? b = some o → h'.get? b = some o) → EP X pins σ Q v { s with heap := h', toks := tk } :=
    fun {its} rv {as bs i v h' tk} hr hv hm hk => by
      obtain ⟨y, ry, rpy⟩ := found rp rv e1 hr hk (by simpa using hv) hm (fun p hp => al.1 p hp _ (fold_mem _ _ _)) e4
      exact ⟨y, H, I.kept hk, ry, q y rpy⟩
  rcases hs with hs | hs
  · obtain ⟨its, rv, hl, hz⟩ := I.list hs
    obtain ⟨as, hr⟩ := Dp.readsAll I _ _ _ (dps_of rp e1) rv
    exact PySem.W.min_list_data (I.ok.hd hc) hl.isList hr al (deep_ok hu dp) fun i v h' tk bs hv hm hk => fin rv hr hv hm hk
  · obtain ⟨its, rv, hl, hz⟩ := I.tuple hs
    obtain ⟨as, hr⟩ := Dp.readsAll I _ _ _ (dps_of rp e1) rv
    exact PySem.W.min_tuple_data (I.ok.hd hc) hl hr al (deep_ok hu dp) fun i v h' tk bs hv hm hk => fin rv hr hv hm hk
theorem cd_max (hc : X.calm = true) (hu : X.A.units + 64 < cLine) : CallD X (.builtin "max") (gBest fun y a => PySem.W.dataLt a y) := by
  refine best_of fun pins s σ H vs us Q I r h => ?_
  obtain ⟨p, xs, ds, d, rfl, hs, rp, ok, hb, q⟩ := h
  obtain ⟨ps, e1, e2⟩ := ok_parts ok
  obtain ⟨x, xs', e3, e4⟩ := best_parts hb e1
  subst e3
  obtain ⟨al, dp⟩ := okB_alike e2
  rw [Vals.ref1 r]
  have fin : ∀ {its : List Value} (rv : Vals xs its) {as bs : List Addr} {i : Nat} {v : Value} {h' : Heap} {tk : Nat}, ReadsAll s.heap its (x :: xs') as → its.toArray[i]? = some v → Reads h' v (PySem.W.maxD x xs') bs → (∀ b o, s.heap.get? b = some o → h'.get? b = some o) → EP X pins σ Q v { s with heap := h', toks := tk } :=
    fun {its} rv {as bs i v h' tk} hr hv hm hk => by
      obtain ⟨y, ry, rpy⟩ := found rp rv e1 hr hk (by simpa using hv) hm (fun p hp => al.1 p hp _ (fold_mem (fun y a => PySem.W.dataLt a y) _ _)) e4
      exact ⟨y, H, I.kept hk, ry, q y rpy⟩
  rcases hs with hs | hs
  · obtain ⟨its, rv, hl, hz⟩ := I.list hs
    obtain ⟨as, hr⟩ := Dp.readsAll I _ _ _ (dps_of rp e1) rv
    exact PySem.W.max_list_data (I.ok.hd hc) hl.isList hr al (deep_ok hu dp) fun i v h' tk bs hv hm hk => fin rv hr hv hm hk
  · obtain ⟨its, rv, hl, hz⟩ := I.tuple hs
    obtain ⟨as, hr⟩ := Dp.readsAll I _ _ _ (dps_of rp e1) rv
    exact PySem.W.max_tuple_data (I.ok.hd hc) hl hr al (deep_ok hu dp) fun i v h' tk bs hv hm hk => fin rv hr hv hm hk

/-! ### sorted(xs), xs a list or a tuple of data -/
def sortB (ps : List PyData) : Bool := (ps.all fun x => ps.all fun y => PySem.W.alike x y) &&
  ((ps.all fun x => match x with | .tuple (_ :: _) => true | _ => false) || ps.all fun x => match x with | .none => false | .tuple _ => false | _ => true) && ps.all fun x => decide (x.depth ≤ 16)
theorem sortB_ok {ps : List PyData} (h : sortB ps = true) : PySem.W.AllAlike ps ∧ PySem.W.Sortable ps ∧ ∀ p ∈ ps, p.depth ≤ 16 := by
  unfold sortB at h
  rw [Bool.and_eq_true, Bool.and_eq_true] at h
  obtain ⟨⟨h1, h2⟩, h3⟩ := h
  refine ⟨fun x hx y hy => List.all_eq_true.mp (List.all_eq_true.mp h1 x hx) y hy, ?_, fun p hp => of_decide_eq_true (List.all_eq_true.mp h3 p hp)⟩
  rw [Bool.or_eq_true] at h2
  rcases h2 with h2 | h2
  · refine .inl fun d hd => ?_
    have := List.all_eq_true.mp h2 d hd
    split at this
    · exact ⟨_, _, rfl⟩
    · cases this
  · refine .inr fun d hd => ?_
    have := List.all_eq_true.mp h2 d hd
    split at this
    · cases this
    · cases this
    · rename_i n1 n2
      exact ⟨fun e => n1 e, fun xs e => n2 xs e⟩
/-! an insertion sort: the kernel can run it -/
def insO {α : Type} (le : α → α → Bool) (x : α) : List α → List α
  | [] => [x]
  | y :: ys => if le x y = true then x :: y :: ys else y :: insO le x ys
def insSort {α : Type} (le : α → α → Bool) : List α → List α
  | [] => []
  | x :: xs => insO le x (insSort le xs)
theorem insO_mid {α : Type} {le : α → α → Bool} {x : α} : ∀ {l1 l2 : List α}, (∀ b ∈ l1, le x b = false) → (∀ c ∈ l2, le x c = true) → insO le x (l1 ++ l2) = l1 ++ x :: l2
  | [], [], _, _ => rfl
  | [], c :: l2, _, h => by
    rw [List.nil_append, insO, if_pos (h c List.mem_cons_self)]
    rfl
  | b :: l1, l2, h, h2 => by
    rw [List.cons_append, insO, if_neg (by rw [h b List.mem_cons_self]; exact Bool.false_ne_true), insO_mid (fun c hc => h c (List.mem_cons_of_mem _ hc)) h2]
    rfl
theorem insSort_eq {α : Type} {le : α → α → Bool} (trans : ∀ a b c, le a b = true → le b c = true → le a c = true) (total : ∀ a b, (le a b || le b a) = true) : ∀ xs : List α, insSort le xs = xs.mergeSort le
  | [] => by rw [List.mergeSort_nil]; rfl
  | x :: xs => by
    obtain ⟨l1, l2, e1, e2, h⟩ := List.mergeSort_cons trans total x xs
    have hp := List.pairwise_mergeSort trans total (x :: xs)
    rw [e1] at hp
    rw [insSort, insSort_eq trans total xs, e2, e1]
    refine insO_mid (fun b hb => ?_) fun c hc => ?_
    · have := h b hb
      simpa using this
    · have h2 := (List.pairwise_append.mp hp).2.1
      exact (List.pairwise_cons.mp h2).1 c hc
theorem dataLe_trans {β : Type} (k : β → PyData) (a b c : β) (h1 : PySem.W.dataLe false k a b = true) (h2 : PySem.W.dataLe false k b c = true) : PySem.W.dataLe false k a c = true := by
  rw [PySem.W.dataLe_eq] at h1 h2 ⊢
  simp only [cond_false, Bool.not_eq_true'] at h1 h2 ⊢
  cases h : PySem.W.dataLt (k c) (k a) with
  | false => rfl
  | true =>
    rcases PyProof.Rows.lex_negTrans (O := PyProof.Rows.itemOrd) _ (PySem.W.keyToks (k b)) _ h with h | h
    · rw [show PySem.W.dataLt (k c) (k b) = true from h] at h2; cases h2
    · rw [show PySem.W.dataLt (k b) (k a) = true from h] at h1; cases h1
theorem dataLe_total {β : Type} (k : β → PyData) (a b : β) : (PySem.W.dataLe false k a b || PySem.W.dataLe false k b a) = true := by
  rw [PySem.W.dataLe_eq]
  simp only [cond_false]
  cases h : PySem.W.dataLt (k b) (k a) with
  | false => rfl
  | true =>
    cases h2 : PySem.W.dataLt (k a) (k b) with
    | false => rfl
    | true =>
      have := PyProof.Rows.lex_trans (O := PyProof.Rows.itemOrd) _ _ _ h h2
      rw [PyProof.Rows.lex_irrefl] at this
      cases this
def sortO (xs : List D) : List D := insSort (PySem.W.dataLe false D.pyD) xs
theorem sortO_eq (xs : List D) : sortO xs = xs.mergeSort (PySem.W.dataLe false D.pyD) := insSort_eq (dataLe_trans _) (dataLe_total _) xs
def sortedB (xs : List D) : Bool := match pys xs with
  | some ps => sortB ps
  | none => false
theorem sortedB_parts {ds : List D} (h : sortedB ds = true) : ∃ ps, pys ds = some ps ∧ sortB ps = true := by
  unfold sortedB at h
  split at h
  · rename_i ps e
    exact ⟨ps, e, h⟩
  · cases h
def gSorted : List D → Option MO
  | [d] => d.asSeq.bind fun xs => if sortedB xs = true then some (.lst (sortO xs)) else none
  | _ => none
/-- collecting a tuple's items -/
theorem gather_tuple {prog : Program} {w : World} {A : Around} {E : Value → Shared → Prop} {s : Shared} {l : Addr} {vs : List Value} {Q : List Value → Shared → Prop} (hl : s.heap.IsTuple l vs.toArray)
    (h : Q vs { s with heap := (s.heap.push (seqObj "list" #[] 0)).update s.heap.objs.size (Obj.mapSeq (· ++ vs.toArray)) }) (hsz : vs.length ≤ sizeLine) : wpAny (model prog w) A (collect (.ref l)) Q E s := by
  obtain ⟨o, ho, hc, n, hd⟩ := id hl
  have old : (s.heap.push (seqObj "list" #[] 0)).get? l = some o := Heap.get?_push_of_some _ ho
  have new : (s.heap.push (seqObj "list" #[] 0)).get? s.heap.objs.size = some (seqObj "list" #[] 0) := Heap.get?_push_size _ rfl
  unfold collect
  refine wpAny_bind (wpAny_runValue (codeAny_builtin entry_proto_collect' ?_))
  refine (show wpAny _ _ (do again (.builtin "list.__iadd__" ⟨[← newList [], .ref l], []⟩)) _ _ s from ?_)
  refine wpAny_bind (wpAny_newList (wpAny_pure ⟨Code.quiet_builtin _ (by decide +kernel), codeAny_builtin entry_list_iadd' ?_⟩))
  refine (show wpAny _ _ (Builtin.List.listExtendWith (.ref s.heap.objs.size) (.ref l) (.ref s.heap.objs.size)) _ _ { s with heap := s.heap.push (seqObj "list" #[] 0) } from ?_)
  unfold Builtin.List.listExtendWith
  refine wpAny_bind (wpAny_typeOf (T := "tuple") ⟨o, old, hc⟩ ?_)
  rw [if_pos (by simp)]
  refine wpAny_bind (listItems_at old hd ?_)
  refine wpAny_bind (listItems_at (xs := #[]) (n := 0) new rfl ?_)
  rw [if_neg (by simp)]
  refine wpAny_bind (listUpdate_at (xs := #[]) (n := 0) new rfl ?_ (Nat.zero_le _) (by simp only [Array.size_append, List.size_toArray, List.length_nil]; omega))
  refine wpAny_pure ?_
  refine (show wpAny (model prog w) A (do
      let o ← load s.heap.objs.size
      match o.data with
      | .seq xs _ => pure xs.toList
      | _ => unsupported "internal:collect") Q E { s with heap := (s.heap.push (seqObj "list" #[] 0)).update s.heap.objs.size (Obj.mapSeq (· ++ vs.toArray)) } from ?_)
  refine wpAny_bind (wpAny_load (get?_update_seq new _) ?_)
  refine (show wpAny _ _ (pure ((#[] : Array Value) ++ vs.toArray).toList) Q E _ from ?_)
  have e : ((#[] : Array Value) ++ vs.toArray).toList = vs := by simp
  rw [e]
  exact wpAny_pure h
theorem sorted_tup {prog : Program} {w : World} {A : Around} {E : Value → Shared → Prop} {s : Shared} {β : Type} {vs : List Value} {bs : List β} {enc : β → PyData} {R : Value → β → Prop} {l : Addr} {Q : Value → Shared → Prop} (hl : s.heap.IsTuple l vs.toArray)
    (e : PySem.W.EachIs R vs bs) (er : PySem.W.EachIs (fun v b => ∃ as, Reads s.heap v (enc b) as) vs bs) (hal : PySem.W.AllAlike (bs.map enc)) (hk : PySem.W.Sortable (bs.map enc)) (hL : bs.length ≤ sizeLine)
    (hu : ∀ b, b ∈ bs → A.units + 2 + (enc b).depth < cLine) (h : ∀ out, out.length = bs.length → PySem.W.EachIs R out (bs.mergeSort (PySem.W.dataLe false enc)) → Q (.ref (s.heap.objs.size + 1)) { s with heap := sortedAll s.heap vs (List.toArray out) }) :
    wpAny (model prog w) A (call (.builtin "sorted") [.ref l]) Q E s := by
  have hv : vs.length ≤ sizeLine := by rw [e.length]; exact hL
  have er' : PySem.W.EachIs (fun v b => ∃ as, Reads (PySem.W.sortingHeap (PySem.W.copyHeap s.heap vs) (s.heap.objs.size + 1) vs) v (enc b) as) vs bs := er.mono fun _ _ ⟨as, r⟩ => ⟨as, PyProof.Rows.Reads.keeps (fun _ _ => PySem.W.sorting_copy_old) r⟩
  refine Calls.call_function_entry kind_sorted plain_sorted entry_sorted (args_sorted1 _) ?_
  unfold Builtin.«sorted»
  refine wpAny_bind (m := checkCount "sorted" 1 1 _) (wpAny_pure ?_)
  refine wpAny_bind (gather_tuple hl ?_ hv)
  refine wpAny_bind (wpAny_newList ?_ hv)
  have hsz : ((s.heap.push (seqObj "list" #[] 0)).update s.heap.objs.size (Obj.mapSeq (· ++ vs.toArray))).objs.size = s.heap.objs.size + 1 := by
    rw [Heap.size_update, size_push']
  refine (show wpAny _ _ _ _ _ { s with heap := PySem.W.copyHeap s.heap vs } from ?_)
  rw [hsz]
  refine wpAny_bind (wpAny_holding (wpAny_call_entry slot_list_sort ⟨_, PySem.W.copyHeap_at s.heap vs, rfl⟩ entry_list_sort ?_ (args_list_sort _)))
  refine (show wpAny (model prog w) A.in1.in1 (Builtin.«list.sort» ⟨[.ref (s.heap.objs.size + 1)], []⟩) _ _ _ from ?_)
  refine PySem.W.list_sort_vals (s := { s with heap := PySem.W.copyHeap s.heap vs }) (PySem.W.copyHeap_at s.heap vs) (κ := PySem.W.dataKind (PySem.W.sortingHeap (PySem.W.copyHeap s.heap vs) (s.heap.objs.size + 1) vs) (bs.map enc))
    (PySem.W.SortsAt.data (s := { s with heap := PySem.W.sortingHeap (PySem.W.copyHeap s.heap vs) (s.heap.objs.size + 1) vs }) (PySem.W.each_map (R := fun v d => ∃ as, Reads (PySem.W.sortingHeap (PySem.W.copyHeap s.heap vs) (s.heap.objs.size + 1) vs) v d as) enc er') hal hk (PySem.W.bound_map hu)) hv ?_
  exact ⟨_, rfl, wpAny_pure ⟨_, rfl, h _ (by rw [PySem.W.sortVals_length false rfl]; exact e.length) (PySem.W.sortVals_data false e er' hal)⟩⟩
theorem each_of {w : World} {K : PySem.W.Frag} {H : Hp} : ∀ {vs : List V} {us : List Value} {ds : List D}, Vals vs us → Reps w K H vs ds → PySem.W.EachIs (fun u d => ∃ x, RelV x u ∧ Rep w K H x d) us ds
  | _, _, _, .nil, .nil => .nil
  | _, _, _, .cons r t, .cons r2 t2 => .cons ⟨_, r, r2⟩ (each_of t t2)
theorem of_each {w : World} {K : PySem.W.Frag} {H : Hp} : ∀ {us : List Value} {ds : List D}, PySem.W.EachIs (fun u d => ∃ x, RelV x u ∧ Rep w K H x d) us ds → ∃ vs, Vals vs us ∧ Reps w K H vs ds
  | _, _, .nil => ⟨[], .nil, .nil⟩
  | _, _, .cons ⟨x, r, r2⟩ t => by
    obtain ⟨vs, h1, h2⟩ := of_each t
    exact ⟨x :: vs, .cons r h1, .cons r2 h2⟩
theorem each_reads {h : Heap} : ∀ {us : List Value} {ds : List D} {ps : List PyData} {as : List Addr}, pys ds = some ps → ReadsAll h us ps as → PySem.W.EachIs (fun u d => ∃ cs, Reads h u d.pyD cs) us ds
  | us, [], ps, as, e, r => by rw [pys] at e; cases e; cases r; exact .nil
  | us, d :: ds, qs, as, e, r => by
    obtain ⟨p, ps, e1, e2, rfl⟩ := pys_cons e
    cases r with
    | cons r1 r2 =>
      have ed : d.pyD = p := by unfold D.pyD; rw [e1]; rfl
      exact .cons ⟨_, by rw [ed]; exact r1⟩ (each_reads e2 r2)
theorem cn_sorted (hu : X.A.units + 64 < cLine) : CallN X (.builtin "sorted") gSorted := by
  refine ⟨fun vs H Q => ∃ (p : Addr) (xs : List V) (ds : List D) (ps : List PyData), vs = [V.ref p] ∧ (SqL X.K H p xs ∨ SqT X.K H p xs) ∧ Reps X.w X.K H xs ds ∧ pys ds = some ps ∧ sortB ps = true ∧ ∀ a ys, H a = none → Reps X.w X.K H ys (sortO ds) → Q (.ref a) (upd H a (.lst ys)), ?_, fun H vs ds m Q r e q => ?_⟩
  · intro pins s σ H vs us Q I r h
    obtain ⟨p, xs, ds, ps, rfl, hs, rp, e1, e2, q⟩ := h
    obtain ⟨al, so, dp⟩ := sortB_ok e2
    obtain ⟨em, _⟩ := pys_map e1
    rw [em] at al so
    rw [Vals.ref1 r]
    have hu2 : ∀ b, b ∈ ds → X.A.units + 2 + (D.pyD b).depth < cLine := fun b hb => by
      have := dp (D.pyD b) (by rw [em]; exact List.mem_map_of_mem hb)
      omega
    have fin : ∀ {its : List Value}, Vals xs its → xs.length ≤ sizeLine → ∀ out : List Value, out.length = ds.length → PySem.W.EachIs (fun u d => ∃ x, RelV x u ∧ Rep X.w X.K H x d) out (ds.mergeSort (PySem.W.dataLe false D.pyD)) → EP X pins σ Q (.ref (s.heap.objs.size + 1)) { s with heap := sortedAll s.heap its (List.toArray out) } := fun {its} rv hz out hl he => by
      obtain ⟨ys, h1, h2⟩ := of_each he
      obtain ⟨ep, he'⟩ := PyProof.Rows.sortedAll_at s.heap its out.toArray
      have hlen : ys.length ≤ sizeLine := by rw [h1.length, hl, ← rp.length]; exact hz
      exact ⟨.ref _, upd H (s.heap.objs.size + 1) (.lst ys), I.laid (t' := s.toks) (fun _ _ => PyProof.Rows.sortedAll_old) (Nat.le_succ _) ⟨hlen, out, ep, h1, he'⟩, rfl, q _ ys (I.hok.fresh (Nat.le_succ _)) (by rw [sortO_eq]; exact h2)⟩
    rcases hs with hs | hs
    · obtain ⟨its, rv, hl, hz⟩ := I.list hs
      obtain ⟨as, hr⟩ := Dp.readsAll I _ _ _ (dps_of rp e1) rv
      exact PySem.W.sorted_data hl.isList (each_of rv rp) (each_reads e1 hr) al so (by rw [← rp.length]; exact hz) hu2 (fin rv hz)
    · obtain ⟨its, rv, hl, hz⟩ := I.tuple hs
      obtain ⟨as, hr⟩ := Dp.readsAll I _ _ _ (dps_of rp e1) rv
      exact sorted_tup hl (each_of rv rp) (each_reads e1 hr) al so (by rw [← rp.length]; exact hz) hu2 (fin rv hz)
  · unfold gSorted at e
    split at e
    · rename_i d0
      obtain ⟨xs, e1, e⟩ := Option.bind_eq_some_iff.mp e
      split at e
      · rename_i ok
        cases e
        obtain ⟨v, rfl, r1⟩ := one_of r
        obtain ⟨a, ys, rfl, s, rp⟩ := seq_of r1 e1
        obtain ⟨ps, e2, e3⟩ := sortedB_parts ok
        exact ⟨a, ys, xs, ps, rfl, s, rp, e2, e3, fun b zs hb rz => q b _ (upd_same_of hb) hb ⟨_, upd_same, zs, rfl, rz.mono (.new hb)⟩⟩
      · cases e
    · cases e

/-! ### xs.index(y) of flat things -/
def indexO (u : V) : List V → Option Nat
  | [] => none
  | v :: vs => if eqV v u = true then some 0 else (indexO u vs).map (· + 1)
theorem indexO_some {u : V} : ∀ {vs : List V} {j : Nat}, indexO u vs = some j → (∃ z, vs[j]? = some z ∧ eqV z u = true) ∧ ∀ (m : Nat) (z : V), m < j → vs[m]? = some z → eqV z u = false
  | [], _, h => by cases h
  | v :: vs, j, h => by
    unfold indexO at h
    split at h
    · rename_i hv
      cases h
      exact ⟨⟨v, rfl, hv⟩, fun m z hm => absurd hm (Nat.not_lt_zero _)⟩
    · rename_i hv
      obtain ⟨k, e, rfl⟩ := Option.map_eq_some_iff.mp h
      obtain ⟨⟨z, h1, h2⟩, h3⟩ := indexO_some e
      refine ⟨⟨z, by simpa using h1, h2⟩, fun m z' hm e' => ?_⟩
      cases m with
      | zero =>
        simp at e'
        subst e'
        cases q : eqV v u with
        | true => exact absurd q hv
        | false => rfl
      | succ m => exact h3 m z' (by omega) (by simpa using e')
def fIndex (f1 f2 : DSt → Option D) : DSt → Option D := fun σ => ((f1 σ).bind D.asLst).bind fun xs => (flats xs).bind fun vs => ((f2 σ).bind D.flat).bind fun u => (indexO u vs).map fun j => D.int (j : Nat)
theorem d_index {o e : Expr} {apos cpos : Pos} {f1 f2 : DSt → Option D} (ho : DR X o f1) (he : DR X e f2)
    (hbase : attributeBase o "index" X.env (eval o X.env) = eval o X.env := by rfl)
    (hfew : ((backTo cpos (starEach [e] X.env)).all (fun x => !x.1) && (backToKw cpos (keywordEach [] X.env)).all (fun x => x.1.isSome)
      && decide (([e] : List Expr).length + ([] : List Keyword).length + (if ([] : List Keyword).isEmpty then 0 else 1) < 30)) = true := by rfl)
    (hline : (apos.endLine == cpos.line) = true := by rfl) (hs : starEach [e] X.env = (false, eval e X.env) :: starEach [] X.env := by rfl) (hplain : (backTo cpos (starEach [] X.env)).any (·.1) = false := by rfl) :
    DE X (.Call (.Attribute o "index" apos) [e] [] cpos) (fIndex f1 f2) := by
  obtain ⟨t, pe, p⟩ := ho
  obtain ⟨u, pe2, p2⟩ := he
  refine ⟨_, pe_bm PySem.F.plainAttrs_list PySem.F.slot_list_index PySem.F.type_list_index mt_index pe (pa_cons pe2 pa_nil hs) hbase hfew hline hs hplain, fun G σD σV H Q d rl e q => ?_⟩
  obtain ⟨xs, e1, e⟩ := Option.bind_eq_some_iff.mp e
  obtain ⟨dx, e1, e0⟩ := Option.bind_eq_some_iff.mp e1
  have e0 := asLst_some e0
  subst e0
  obtain ⟨vs, e2, e⟩ := Option.bind_eq_some_iff.mp e
  obtain ⟨y, e3, e⟩ := Option.bind_eq_some_iff.mp e
  obtain ⟨dy, e3, e4⟩ := Option.bind_eq_some_iff.mp e3
  obtain ⟨j, e5, rfl⟩ := Option.map_eq_some_iff.mp e
  refine p G σD σV H _ _ rl e1 fun v H1 s1 r1 => ?_
  obtain ⟨a, us, rfl, sa, ra⟩ := r1.lst
  have r1l : SqL X.K H1 a us := .inl sa
  refine ⟨?_, p2 G σD σV H1 _ dy (rl.grow s1) e3 fun v2 H2 s2 r2 => ?_⟩
  · exact .inl ⟨rfl, us, r1l⟩
  · obtain ⟨a2, us2, ev, sa2, ra2⟩ := (r1.same s2).lst
    cases ev
    obtain ⟨h1, h2⟩ := flats_v ra2 e2
    obtain ⟨h3, h4⟩ := flat_v r2 e4
    subst h1 h3
    obtain ⟨⟨z, hz, ez⟩, hno⟩ := indexO_some e5
    exact ⟨a, us2, v2, j, z, rfl, rfl, .inl sa2, h4, h2, hz, ez, hno, q _ H2 (s1.trans s2) (.int _)⟩
end
end Deep
set_option maxRecDepth 100000
set_option maxHeartbeats 4000000
namespace Deep
open PySem PySem.Spec PyProof.Rows L2

/-! ### look-up and store, plainly -/
section
variable {κ : Type} [DecidableEq κ]
def lookE : List κ → List D → κ → Option D
  | k' :: ks, d :: ds, k => if k' = k then some d else lookE ks ds k
  | _, _, _ => none
def putE : List (κ × D) → κ → D → List (κ × D)
  | [], k, d => [(k, d)]
  | e :: es, k, d => if e.1 = k then (e.1, d) :: es else e :: putE es k d
def dropE : List (κ × D) → κ → List (κ × D)
  | [], _ => []
  | e :: es, k => if e.1 = k then es else e :: dropE es k
theorem putE_len (k : κ) (d : D) : ∀ es : List (κ × D), (putE es k d).length ≤ es.length + 1
  | [] => Nat.le_refl _
  | e :: es => by
    rw [putE]
    split
    · rw [List.length_cons, List.length_cons]; omega
    · rw [List.length_cons, List.length_cons]
      have := putE_len k d es
      omega
end
def keyK : D → Option Key
  | .int i => some (.inl i)
  | .str x => some (.inr x)
  | _ => none
theorem keyK_v {w : World} {K : PySem.W.Frag} {H : Hp} {v : V} {d : D} {k : Key} (r : RdR w K H v d) (h : keyK d = some k) : v = kV k := by
  cases d with
  | int i => cases h; exact r.int
  | str x => cases h; exact r.str
  | _ => cases h

/-! ### nested keys -/
section
variable {X : Cx} {pins : List (Addr × Obj)} {σ : L2.St} {H : Hp} {s : Shared}
mutual
theorem nest_of (I : Inv X pins σ H s) : ∀ (k : NestedKey) (v : V) (u : Value), Rep X.w X.K H v (kd k) → RelV v u → NestedIs s.heap k u
  | .none, v, u, r, e => by
    rw [kd] at r
    cases r
    cases e
    exact .none
  | .num i, v, u, r, e => by
    rw [kd] at r
    cases r
    obtain ⟨t, rfl⟩ := e
    exact .int i t
  | .text x, v, u, r, e => by
    rw [kd] at r
    cases r
    obtain ⟨t, rfl⟩ := e
    exact .text x t
  | .tup ks, v, u, r, e => by
    rw [kd] at r
    cases r with
    | tup hs rs =>
      cases e
      obtain ⟨its, rv, ⟨o, ho, hc, n, hd⟩, _⟩ := I.tuple hs
      exact .tup ho hc hd (by simpa using nests_of I ks _ its rs rv)
theorem nests_of (I : Inv X pins σ H s) : ∀ (ks : List NestedKey) (vs : List V) (us : List Value), Reps X.w X.K H vs (kds ks) → Vals vs us → NestedAll s.heap ks us
  | [], vs, us, r, e => by
    rw [kds] at r
    cases r
    cases e
    exact .nil
  | k :: ks, vs, us, r, e => by
    rw [kds] at r
    cases r with
    | cons r1 r2 =>
      cases e with
      | cons e1 e2 => exact .cons (nest_of I k _ _ r1 e1) (nests_of I ks _ _ r2 e2)
end
/-- a key value -/
theorem key_is (I : Inv X pins σ H s) {v : V} {d : D} {k : NestedKey} {u : Value} (r : RdR X.w X.K H v d) (h : keyOf d = some k) (ru : RelV v u) : ∃ b, v = .ref b ∧ u = .ref b ∧ Rep X.w X.K H (.ref b) (kd k) ∧ k.depth ≤ 8 ∧ (nestedKind X.prog X.w).is s.heap k b := by
  obtain ⟨⟨xs, rfl⟩, e, dp⟩ := keyOf_tup h
  have ek := kd_of e
  obtain ⟨a, vs, rfl, hs, rp⟩ := r.tup
  have r2 : Rep X.w X.K H (.ref a) (kd k) := by rw [ek]; exact .tup hs rp
  cases (show u = Value.ref a from ru)
  exact ⟨a, rfl, rfl, r2, dp, nest_of I k _ _ r2 rfl, dp⟩
theorem ents_is (I : Inv X pins σ H s) : ∀ {ents : List Ent} {xs : List (NestedKey × Addr × Value)}, Paired EntR ents xs → Reps X.w X.K H (ents.map fun e => V.ref e.2.1) (kds (ents.map (·.1))) → (∀ k ∈ ents.map (·.1), k.depth ≤ 8) → ∀ x ∈ xs, (nestedKind X.prog X.w).is s.heap x.1 x.2.1
  | _, _, .nil, _, _, x, hx => nomatch hx
  | e :: es, _, .cons (b := y) h t, r, dp, x, hx => by
    rw [List.map_cons, List.map_cons, kds] at r
    cases r with
    | cons r1 r2 =>
      rcases List.mem_cons.mp hx with rfl | hx
      · rw [← h.1, ← h.2.1]
        exact ⟨nest_of I _ _ _ r1 rfl, dp _ (by rw [List.map_cons]; exact List.mem_cons_self)⟩
      · exact ents_is I t r2 (fun k hk => dp k (by rw [List.map_cons]; exact List.mem_cons_of_mem _ hk)) x hx
/-- the dict as the library tells it -/
theorem dict_is (I : Inv X pins σ H s) {a : Addr} {ents : List Ent} (h : Rd H a (dO X.w a ents)) (kr : Reps X.w X.K H (ents.map fun e => V.ref e.2.1) (kds (ents.map (·.1)))) (dp : ∀ k ∈ ents.map (·.1), k.depth ≤ 8) :
    ∃ xs, Paired EntR ents xs ∧ s.heap.DictOfH (nestedKind X.prog X.w) a xs ∧ (a == sysModules) = false ∧ ents.length ≤ sizeLine := by
  obtain ⟨⟨z, hd, xs, o, es, ep, pr, h1, h2, h3, h4, h5⟩, _⟩ := (show ObjOk X.prog X.w H s.heap a (dO X.w a ents) from h.ok I.hok)
  exact ⟨xs, pr, ⟨o, es, ep, h1, h2, h3, h4, ents_is I pr kr dp, h5⟩, hd, z⟩
theorem at_look {w : World} {K : PySem.W.Frag} : ∀ {ents : List Ent} {xs : List (NestedKey × Addr × Value)} {ds : List D}, Paired EntR ents xs → Reps w K H (ents.map (·.2.2)) ds → ∀ (k : NestedKey),
    (∀ d, lookE (ents.map (·.1)) ds k = some d → ∃ (p : Addr × Value) (v : V), atKey xs k = some p ∧ RelV v p.2 ∧ Rep w K H v d) ∧ (lookE (ents.map (·.1)) ds k = none → atKey xs k = none)
  | _, _, _, .nil, r, k => by
    cases r
    exact ⟨fun d h => (nomatch h), fun _ => rfl⟩
  | e :: es, _, _, .cons (b := y) (l₂ := ys) h t, r, k => by
    cases r with
    | cons r1 r2 =>
      rw [List.map_cons, lookE]
      by_cases hk : e.1 = k
      · rw [if_pos hk]
        have hk2 : y.1 = k := h.1.symm.trans hk
        refine ⟨fun d hd => ?_, fun z => (nomatch z)⟩
        cases hd
        exact ⟨y.2, e.2.2, by simp [atKey, List.find?_cons, hk2], h.2.2, r1⟩
      · rw [if_neg hk]
        have hk2 : ¬ y.1 = k := fun z => hk (h.1.trans z)
        have e1 : atKey (y :: ys) k = atKey ys k := by simp [atKey, List.find?_cons, hk2]
        rw [e1]
        exact at_look t r2 k
end
section
variable {X : Cx} {pos : Pos}
/-! ### in, not in -/
def gDIn (neg : Bool) : D → D → Option D := fun x y => match y with
  | .dic ks vs => (keyOf x).bind fun k => some (.bl (if neg then !(lookE ks vs k).isSome else (lookE ks vs k).isSome))
  | .dicK ks vs => (keyK x).bind fun k => some (.bl (if neg then !(lookE ks vs k).isSome else (lookE ks vs k).isSome))
  | _ => none
theorem look_valV {w : World} {K : PySem.W.Frag} {H : Hp} : ∀ {kvs : List (Key × V)} {ds : List D}, Reps w K H (kvs.map (·.2)) ds → ∀ (k : Key),
    (∀ d, lookE (kvs.map (·.1)) ds k = some d → ∃ v, valV kvs k = some v ∧ Rep w K H v d) ∧ (lookE (kvs.map (·.1)) ds k = none → valV kvs k = none)
  | [], _, r, k => by
    cases r
    exact ⟨fun d h => (nomatch h), fun _ => rfl⟩
  | e :: es, _, r, k => by
    cases r with
    | cons r1 r2 =>
      rw [List.map_cons, lookE]
      by_cases hk : e.1 = k
      · rw [if_pos hk]
        refine ⟨fun d hd => ?_, fun z => (nomatch z)⟩
        cases hd
        exact ⟨e.2, valV_pos hk, r1⟩
      · rw [if_neg hk, valV_neg hk]
        exact look_valV r2 k
theorem look_isSome {w : World} {K : PySem.W.Frag} {H : Hp} {kvs : List (Key × V)} {ds : List D} (r : Reps w K H (kvs.map (·.2)) ds) (k : Key) : (lookE (kvs.map (·.1)) ds k).isSome = (valV kvs k).isSome := by
  obtain ⟨h1, h2⟩ := look_valV r k
  cases e : lookE (kvs.map (·.1)) ds k with
  | none => rw [h2 e]; rfl
  | some d => obtain ⟨v, e2, _⟩ := h1 d e; rw [e2]; rfl
theorem atKey_isSome {w : World} {K : PySem.W.Frag} {H : Hp} {ents : List Ent} {xs : List (NestedKey × Addr × Value)} {ds : List D} (p : Paired EntR ents xs) (r : Reps w K H (ents.map (·.2.2)) ds) (k : NestedKey) : (lookE (ents.map (·.1)) ds k).isSome = (atKey xs k).isSome := by
  obtain ⟨h1, h2⟩ := at_look p r k
  cases e : lookE (ents.map (·.1)) ds k with
  | none => rw [h2 e]; rfl
  | some d => obtain ⟨q, v, e2, _⟩ := h1 d e; rw [e2]; rfl
theorem room8 {A : Around} {X : Cx} (hu : A.units + 64 < cLine) : (nestedKind X.prog X.w).room A.in1 := by
  show A.units + 1 + 8 < cLine
  omega
/-- what the relation with a nested dict asks -/
def rNd (X : Cx) (k : Bool → Bool) : R2 := fun x y H Q => ∃ (dx : D) (kx : NestedKey) (a : Addr) (ents : List Ent) (ds : List D), RdR X.w X.K H x dx ∧ keyOf dx = some kx ∧ y = .ref a ∧ Rd H a (dO X.w a ents) ∧
  Reps X.w X.K H (ents.map fun e => V.ref e.2.1) (kds (ents.map (·.1))) ∧ Reps X.w X.K H (ents.map (·.2.2)) ds ∧ (∀ k ∈ ents.map (·.1), k.depth ≤ 8) ∧ Q (.bl (k (lookE (ents.map (·.1)) ds kx).isSome)) H
theorem op_inN (hu : X.A.units + 64 < cLine) : OpR X (compareOp .In) (rNd X fun b => b) := by
  intro pins s σ H x y v u Q I rx ry h
  obtain ⟨dx, kx, a, ents, ds, r1, hk, rfl, hd, kr, vr, dp, q⟩ := h
  cases ry
  obtain ⟨b, rfl, rfl, rb, dpk, ki⟩ := key_is I r1 hk rx
  obtain ⟨xs, pr, dd, hsm, hz⟩ := dict_is I hd kr dp
  refine wpAny_in_heap (room8 hu) ki hsm dd ?_
  rw [← atKey_isSome pr vr kx]
  exact ⟨.bl _, H, I.tok _, rfl, q⟩
theorem op_notInN (hu : X.A.units + 64 < cLine) : OpR X (compareOp .NotIn) (rNd X fun b => !b) := by
  intro pins s σ H x y v u Q I rx ry h
  obtain ⟨dx, kx, a, ents, ds, r1, hk, rfl, hd, kr, vr, dp, q⟩ := h
  cases ry
  obtain ⟨b, rfl, rfl, rb, dpk, ki⟩ := key_is I r1 hk rx
  obtain ⟨xs, pr, dd, hsm, hz⟩ := dict_is I hd kr dp
  refine wpAny_notIn_heap (room8 hu) ki hsm dd ?_
  rw [← atKey_isSome pr vr kx]
  exact ⟨.bl _, H, I.tok _, rfl, q⟩
def rKd (X : Cx) (k : Bool → Bool) : R2 := fun x y H Q => ∃ (kx : Key) (a : Addr) (kvs : List (Key × V)), x = kV kx ∧ y = .ref a ∧ Rd H a (.dK kvs) ∧ Q (.bl (k (valV kvs kx).isSome)) H
theorem op_inK (hu : X.A.units + 64 < cLine) : OpR X (compareOp .In) (rKd X fun b => b) := by
  intro pins s σ H x y v u Q I rx ry h
  obtain ⟨kx, a, kvs, rfl, rfl, hd, q⟩ := h
  cases ry
  exact d_in (by omega) I (.inl ⟨kvs, kx, hd, rfl, rfl⟩) rx fun s' I' => ⟨.bl _, H, I', rfl, q⟩
theorem op_notInK (hu : X.A.units + 64 < cLine) : OpR X (compareOp .NotIn) (rKd X fun b => !b) := by
  intro pins s σ H x y v u Q I rx ry h
  obtain ⟨kx, a, kvs, rfl, rfl, hd, q⟩ := h
  cases ry
  exact d_notIn (by omega) I (.inl ⟨kvs, kx, hd, rfl, rfl⟩) rx fun s' I' => ⟨.bl _, H, I', rfl, q⟩
theorem dIn_of {op : CmpOp} {k : Bool → Bool} {neg : Bool} (hk : ∀ b : Bool, (if neg = true then !b else b) = k b) (h1 : OpR X (compareOp op) (rNd X k)) (h2 : OpR X (compareOp op) (rKd X k)) : OpD X (compareOp op) (gDIn neg) := by
  refine ⟨_, h1.or h2, fun H x y dx dy d Q rx ry e q => ?_⟩
  cases dy with
  | dic ks vs =>
    obtain ⟨kx, e1, e⟩ := Option.bind_eq_some_iff.mp e
    cases e
    rw [hk] at q
    obtain ⟨a, ents, rfl, hd, rfl, kr, vr, dp⟩ := ry.dic
    exact .inl ⟨dx, kx, a, ents, vs, rx, e1, rfl, hd, kr, vr, dp, q _ H (Same.refl H) (.bl _)⟩
  | dicK ks vs =>
    obtain ⟨kx, e1, e⟩ := Option.bind_eq_some_iff.mp e
    cases e
    rw [hk] at q
    obtain ⟨a, kvs, rfl, hd, rfl, vr⟩ := ry.dicK
    refine .inr ⟨kx, a, kvs, keyK_v rx e1, rfl, hd, ?_⟩
    rw [← look_isSome vr kx]
    exact q _ H (Same.refl H) (.bl _)
  | _ => cases e
theorem od_inD (hu : X.A.units + 64 < cLine) : OpD X (compareOp .In) (gDIn false) := dIn_of (fun b => rfl) (op_inN hu) (op_inK hu)
theorem od_notInD (hu : X.A.units + 64 < cLine) : OpD X (compareOp .NotIn) (gDIn true) := dIn_of (fun b => rfl) (op_notInN hu) (op_notInK hu)

/-! ### d[k] -/
def gGet (x y : D) : Option D := match x with
  | .dic ks vs => (keyOf y).bind fun k => lookE ks vs k
  | .dicK ks vs => (keyK y).bind fun k => lookE ks vs k
  | _ => none
def GetR (X : Cx) (r : R2) : Prop :=
  ∀ (pins : List (Addr × Obj)) (s : Shared) (σ : L2.St) (H : Hp) (x y : V) (v u : Value) (Q : VK), Inv X pins σ H s → RelV x v → RelV y u → r x y H Q → s.TypeIs v "dict" ∧ wpAny (model X.prog X.w) X.A (getItem v u) (EP X pins σ Q) X.xe s
theorem pe_getR {o i : Expr} {td ty : TE} {r : R2} (hr : GetR X r) (ho : PE X o td) (hi : PE X i ty) (hs : NoSl i) : PE X (.Subscript o i pos) (tOp r td ty) := by
  refine ⟨fun pins s σ H Q I h => ?_⟩
  exact subD_of PySem.F.slot_dict_getitem.lookup hs (thn (ho.run pins s σ H _ I h) fun u s1 ⟨x, H1, I1, rx, q1⟩ => thn (hi.run pins s1 σ H1 _ I1 q1) fun iv s2 ⟨y, H2, I2, ry, q2⟩ => hr pins s2 σ H2 x y u iv Q I2 rx ry q2)
def rGet (X : Cx) : R2 := fun x y H Q => ∃ (dx dy d : D), RdR X.w X.K H x dx ∧ RdR X.w X.K H y dy ∧ gGet dx dy = some d ∧ ∀ v, Rep X.w X.K H v d → Q v H
theorem get_ok (hu : X.A.units + 64 < cLine) : GetR X (rGet X) := by
  intro pins s σ H x y v u Q I rx ry h
  obtain ⟨dx, dy, d, r1, r2, e, q⟩ := h
  unfold gGet at e
  split at e
  · rename_i ks vs
    obtain ⟨k, e1, e⟩ := Option.bind_eq_some_iff.mp e
    obtain ⟨a, ents, rfl, hd, rfl, kr, vr, dp⟩ := r1.dic
    cases (show v = Value.ref a from rx)
    obtain ⟨b, rfl, rfl, rb, dpk, ki⟩ := key_is I r2 e1 ry
    obtain ⟨xs, pr, dd, hsm, hz⟩ := dict_is I hd kr dp
    obtain ⟨p, z, e2, rz, rpz⟩ := (at_look pr vr k).1 d e
    exact ⟨dd.typeIs, wpAny_getItem_heap (room8 hu) ki dd e2 ⟨z, H, I.tok _, rz, q z rpz⟩⟩
  · rename_i ks vs
    obtain ⟨k, e1, e⟩ := Option.bind_eq_some_iff.mp e
    obtain ⟨a, kvs, rfl, hd, rfl, vr⟩ := r1.dicK
    cases (show v = Value.ref a from rx)
    have ey := keyK_v r2 e1
    obtain ⟨z, e2, rz⟩ := (look_valV vr k).1 d e
    have g : DGet H a y (some z) := .inl ⟨kvs, k, hd, ey, e2.symm⟩
    exact ⟨dict_typeIs I g, d_getItem (by omega) I g ry fun w' s3 I3 rw' => ⟨z, H, I3, rw', q z rz⟩⟩
  · cases e
theorem d_get {a b : Expr} {f1 f2 : DSt → Option D} (hu : X.A.units + 64 < cLine) (ha : DR X a f1) (hb : DR X b f2) (hs : NoSl b := by exact fun _ _ => rfl) : DE X (.Subscript a b pos) (fOp gGet f1 f2) := by
  obtain ⟨t, pe, p⟩ := ha
  obtain ⟨u, pe2, p2⟩ := hb
  refine ⟨_, pe_getR (get_ok hu) pe pe2 hs, fun G σD σV H Q d rl e q => ?_⟩
  obtain ⟨x, e1, e⟩ := Option.bind_eq_some_iff.mp e
  obtain ⟨y, e2, e⟩ := Option.bind_eq_some_iff.mp e
  refine p G σD σV H _ x rl e1 fun v H1 s1 r1 => ?_
  refine p2 G σD σV H1 _ _ (rl.grow s1) e2 fun v2 H2 s2 r2 => ?_
  exact ⟨x, y, d, r1.same s2, r2, e, fun z rz => q z H2 (s1.trans s2) rz⟩

/-! ### d.get(k, x), nested keys -/
def gGetOr (x y z : D) : Option D := match x with
  | .dic ks vs => (keyOf y).bind fun k => some ((lookE ks vs k).getD z)
  | _ => none
def fOp3 (g : D → D → D → Option D) (f1 f2 f3 : DSt → Option D) : DSt → Option D := fun σ => (f1 σ).bind fun x => (f2 σ).bind fun y => (f3 σ).bind fun z => g x y z
def tGetOr (X : Cx) (td ty tx : TE) : TE := fun σ H Q => td σ H fun x H1 => (∃ (a : Addr) (ents : List Ent), x = .ref a ∧ Rd H1 a (dO X.w a ents) ∧ Reps X.w X.K H1 (ents.map fun e => V.ref e.2.1) (kds (ents.map (·.1))) ∧ (∀ k ∈ ents.map (·.1), k.depth ≤ 8)) ∧
  ty σ H1 fun y H2 => tx σ H2 fun z H3 => ∃ (dx dy dz d : D), RdR X.w X.K H3 x dx ∧ RdR X.w X.K H3 y dy ∧ Rep X.w X.K H3 z dz ∧ gGetOr dx dy dz = some d ∧ ∀ v, Rep X.w X.K H3 v d → Q v H3
theorem pe_getOr {o e f : Expr} {apos cpos : Pos} {td ty tx : TE} (hu : X.A.units + 64 < cLine) (ho : PE X o td) (he : PE X e ty) (hf : PE X f tx) (m : M2 X o "get" apos e f cpos) : PE X (.Call (.Attribute o "get" apos) [e, f] [] cpos) (tGetOr X td ty tx) := by
  refine ⟨fun pins s σ H Q I h => ?_⟩
  refine wpAny_Call_method m.base m.few m.line PySem.F.plainAttrs_dict PySem.F.slot_dict_get PySem.F.type_dict_get (thn (ho.run pins s σ H _ I h) fun u s1 ⟨x, H1, I1, rx, ⟨a, ents, ex, hd, kr, dp⟩, q1⟩ => ?_)
  subst ex
  obtain rfl : u = Value.ref a := rx
  obtain ⟨xs, pr, dd, hsm, hz⟩ := dict_is I1 hd kr dp
  refine ⟨dd.typeIs, fun b q => ?_, ?_⟩
  · cases q
    obtain ⟨ob, _, _, h1, h2, _⟩ := dd
    exact ⟨ob, h1, h2.2.1⟩
  rw [m.trees]
  refine Calls.callWith_builtin rfl (Calls.evalArgs_plain (Calls.spliced_cons (thn (he.run pins s1 σ H1 _ I1 q1) fun iv s2 ⟨y, H2, I2, ry, q2⟩ =>
    Calls.spliced_cons (thn (hf.run pins s2 σ H2 _ I2 q2) fun fv s3 ⟨z, H3, I3, rz, dx, dy, dz, d, r1, r2, r3, e1, q3⟩ => Calls.spliced_nil ?_))))
  unfold gGetOr at e1
  split at e1
  · rename_i ks vs
    obtain ⟨k, e2, e1⟩ := Option.bind_eq_some_iff.mp e1
    cases e1
    obtain ⟨a', ents', ea, hd', rfl, kr', vr', dp'⟩ := r1.dic
    cases ea
    obtain ⟨b, rfl, rfl, rb, dpk, ki⟩ := key_is I3 r2 e2 ry
    obtain ⟨xs', pr', dd', hsm', hz'⟩ := dict_is I3 hd' kr' dp'
    obtain ⟨l1, l2⟩ := at_look pr' vr' k
    refine call_meetsIn PySem.F.slot_dict_get dd'.typeIs PySem.F.entry_dict_get (PySem.F.args_dict_get_3 _ _ _) (meetsH_dict_get_default (nestedKind X.prog X.w) a b hsm' fv) ⟨room8 hu, k, xs', ki, dd', ?_⟩
    cases e3 : lookE (ents'.map (·.1)) vs k with
    | none =>
      rw [e3] at q3
      rw [l2 e3]
      exact ⟨z, H3, I3.tok _, rz, q3 z r3⟩
    | some d =>
      rw [e3] at q3
      obtain ⟨p, v, e4, rv, rpv⟩ := l1 d e3
      rw [e4]
      exact ⟨v, H3, I3.tok _, rv, q3 v rpv⟩
  · cases e1
theorem d_getOr {o e f : Expr} {apos cpos : Pos} {f1 f2 f3 : DSt → Option D} (hu : X.A.units + 64 < cLine) (ho : DR X o f1) (he : DR X e f2) (hf : DE X f f3) (m : M2 X o "get" apos e f cpos := by exact ⟨rfl, rfl, rfl, rfl⟩) : DE X (.Call (.Attribute o "get" apos) [e, f] [] cpos) (fOp3 gGetOr f1 f2 f3) := by
  obtain ⟨t, pe, p⟩ := ho
  obtain ⟨u, pe2, p2⟩ := he
  obtain ⟨w', pe3, p3⟩ := hf
  refine ⟨_, pe_getOr hu pe pe2 pe3 m, fun G σD σV H Q d rl e q => ?_⟩
  obtain ⟨x, e1, e⟩ := Option.bind_eq_some_iff.mp e
  obtain ⟨y, e2, e⟩ := Option.bind_eq_some_iff.mp e
  obtain ⟨z, e3, e⟩ := Option.bind_eq_some_iff.mp e
  refine p G σD σV H _ x rl e1 fun v H1 s1 r1 => ⟨?_, ?_⟩
  · have e0 := e
    unfold gGetOr at e0
    split at e0
    · rename_i ks vs
      obtain ⟨a, ents, ea, hd, rfl, kr, vr, dp⟩ := r1.dic
      exact ⟨a, ents, ea, hd, kr, dp⟩
    · cases e0
  · refine p2 G σD σV H1 _ y (rl.grow s1) e2 fun v2 H2 s2 r2 => ?_
    refine p3 G σD σV H2 _ z ((rl.grow s1).grow s2) e3 fun v3 H3 s3 r3 => ?_
    exact ⟨x, y, z, d, r1.same (s2.trans s3), r2.same s3, r3, e, fun v rv => q v H3 ((s1.trans s2).trans s3) rv⟩

/-! ### new dicts -/
def fNewD : DSt → Option MO := fun _ => some (.dic [])
def fNewK : DSt → Option MO := fun _ => some (.dicK [])
def tNewN (w : World) : TE := fun _ H Q => ∀ p, H p = none → Q (.ref p) (upd H p (dO w p []))
theorem ext_ok {P : Program} {w : World} {H : Hp} {h : Heap} {a : Addr} {ents : List Ent} (x : DOb w a ents h) : ObjOk P w H h a (dO w a ents) := by
  refine ⟨x, ?_, fun h1 h2 q k => ?_⟩
  · obtain ⟨_, _, _, o, _, _, _, e, _⟩ := x
    exact ⟨o, e⟩
  · obtain ⟨z, hd, xs, o, es, ep, pr, e, c⟩ := q
    exact ⟨z, hd, xs, o, es, ep, pr, k o e, c⟩
theorem new_DOb (w : World) (h : Heap) (hb : sysModules < h.objs.size) : DOb w h.objs.size [] (h.push { cls := .type "dict", data := .dict #[] }) :=
  ⟨Nat.zero_le _, beq_eq_false_iff_ne.mpr (Ne.symm (Nat.ne_of_lt hb)), [], _, #[], 0, .nil, Heap.get?_push_size _ rfl, ⟨rfl, rfl, rfl⟩, rfl, rfl, List.nodup_nil⟩
theorem pe_newN : PE X (.Dict [] [] pos) (tNewN X.w) := ⟨fun pins s σ H Q I h =>
  wpAny_Dict_empty ⟨.ref s.heap.objs.size, _, I.laid (a := s.heap.objs.size) (o := dO X.w s.heap.objs.size []) (t' := s.toks) (fun _ _ q => Heap.get?_push_of_some _ q) (Nat.le_refl _) (ext_ok (new_DOb X.w s.heap I.big)), rfl, h _ (I.hok.fresh (Nat.le_refl _))⟩⟩
theorem d_new : DN X (.Dict [] [] pos) fNewD := ⟨_, pe_newN, fun G σD σV H Q m rl e q => by
  cases e
  intro p hp
  exact q _ _ (upd_same_of hp) ⟨p, rfl, hp, _, upd_same, [], rfl, rfl, .nil, .nil, fun _ z => nomatch z⟩⟩
theorem d_newK : DN X (.Dict [] [] pos) fNewK := ⟨_, pe_dnewK, fun G σD σV H Q m rl e q => by
  cases e
  intro p hp
  exact q _ _ (upd_same_of hp) ⟨p, rfl, hp, _, upd_same, [], rfl, rfl, .nil⟩⟩

/-! ### d[k] = v -/
/-- a nested dict after a store -/
def putT : List Ent → NestedKey → Addr → V → List Ent
  | [], k, b, v => [(k, b, v)]
  | e :: es, k, b, v => if e.1 = k then (e.1, e.2.1, v) :: es else e :: putT es k b v
theorem putT_len (k : NestedKey) (b : Addr) (v : V) : ∀ es : List Ent, (putT es k b v).length ≤ es.length + 1
  | [] => Nat.le_refl _
  | e :: es => by
    rw [putT]
    split
    · rw [List.length_cons, List.length_cons]; omega
    · rw [List.length_cons, List.length_cons]
      have := putT_len k b v es
      omega
theorem putT_keys (k : NestedKey) (b : Addr) (v : V) (d : D) : ∀ (ents : List Ent) (es : List (NestedKey × D)), ents.map (·.1) = es.map (·.1) → (putT ents k b v).map (·.1) = (putE es k d).map (·.1)
  | [], [], _ => rfl
  | [], _ :: _, h => nomatch h
  | _ :: _, [], h => nomatch h
  | e :: ents, f :: es, h => by
    rw [List.map_cons, List.map_cons] at h
    injection h with h1 h2
    rw [putT, putE, h1]
    split
    · rw [List.map_cons, List.map_cons, h2]
    · rw [List.map_cons, List.map_cons, putT_keys k b v d ents es h2, h1]
theorem putT_vals {w : World} {K : PySem.W.Frag} {H : Hp} (k : NestedKey) (b : Addr) (v : V) (d : D) (rv : Rep w K H v d) : ∀ (ents : List Ent) (es : List (NestedKey × D)), ents.map (·.1) = es.map (·.1) → Reps w K H (ents.map (·.2.2)) (es.map (·.2)) → Reps w K H ((putT ents k b v).map (·.2.2)) ((putE es k d).map (·.2))
  | [], [], _, _ => .cons rv .nil
  | [], _ :: _, h, _ => nomatch h
  | _ :: _, [], h, _ => nomatch h
  | e :: ents, f :: es, h, r => by
    rw [List.map_cons, List.map_cons] at h
    injection h with h1 h2
    rw [putT, putE, h1]
    cases r with
    | cons r1 r2 =>
      split
      · exact .cons rv r2
      · exact .cons r1 (putT_vals k b v d rv ents es h2 r2)
theorem putT_refs {w : World} {K : PySem.W.Frag} {H : Hp} (k : NestedKey) (b : Addr) (v : V) (rb : Rep w K H (.ref b) (kd k)) : ∀ (ents : List Ent), Reps w K H (ents.map fun e => V.ref e.2.1) (kds (ents.map (·.1))) → Reps w K H ((putT ents k b v).map fun e => V.ref e.2.1) (kds ((putT ents k b v).map (·.1)))
  | [], _ => .cons rb .nil
  | e :: ents, r => by
    rw [List.map_cons, List.map_cons, kds] at r
    rw [putT]
    cases r with
    | cons r1 r2 =>
      split
      · rw [List.map_cons, List.map_cons, kds]; exact .cons r1 r2
      · rw [List.map_cons, List.map_cons, kds]; exact .cons r1 (putT_refs k b v rb ents r2)
theorem putT_depth {k : NestedKey} {b : Addr} {v : V} (hk : k.depth ≤ 8) : ∀ (ents : List Ent), (∀ k ∈ ents.map (·.1), k.depth ≤ 8) → ∀ j ∈ (putT ents k b v).map (·.1), j.depth ≤ 8
  | [], _, j, hj => by
    have : j = k := by simpa [putT] using hj
    rw [this]; exact hk
  | e :: ents, h, j, hj => by
    rw [putT] at hj
    split at hj
    · exact h j hj
    · rw [List.map_cons] at hj
      rcases List.mem_cons.mp hj with rfl | hj
      · exact h _ (by rw [List.map_cons]; exact List.mem_cons_self)
      · exact putT_depth hk ents (fun i hi => h i (by rw [List.map_cons]; exact List.mem_cons_of_mem _ hi)) j hj
theorem entR_keys : ∀ {ents : List Ent} {xs : List (NestedKey × Addr × Value)}, Paired EntR ents xs → ents.map (·.1) = xs.map (·.1)
  | _, _, .nil => rfl
  | _, _, .cons h t => by rw [List.map_cons, List.map_cons, h.1, entR_keys t]
theorem putAt_out {k : NestedKey} {u : Value} : ∀ {xs : List (NestedKey × Addr × Value)}, k ∉ xs.map (·.1) → xs.map (putAt k u) = xs := fun {xs} h => map_putAt_of_not_mem xs k u h
theorem atKey_cons_ne {x : NestedKey × Addr × Value} {xs : List (NestedKey × Addr × Value)} {k : NestedKey} (h : ¬ x.1 = k) : atKey (x :: xs) k = atKey xs k := by simp [atKey, List.find?_cons, h]
theorem atKey_cons_eq {x : NestedKey × Addr × Value} {xs : List (NestedKey × Addr × Value)} {k : NestedKey} (h : x.1 = k) : atKey (x :: xs) k = some x.2 := by simp [atKey, List.find?_cons, h]
theorem putT_pair {k : NestedKey} {b : Addr} {v : V} {u : Value} (rv : RelV v u) : ∀ {ents : List Ent} {xs : List (NestedKey × Addr × Value)}, Paired EntR ents xs → (xs.map (·.1)).Nodup → Paired EntR (putT ents k b v) (storedH xs k b u)
  | _, _, .nil, _ => .cons ⟨rfl, rfl, rv⟩ .nil
  | e :: es, _, .cons (b := y) (l₂ := ys) h t, hn => by
    rw [List.map_cons, List.nodup_cons] at hn
    rw [putT]
    by_cases hk : e.1 = k
    · have hy : y.1 = k := h.1.symm.trans hk
      rw [if_pos hk, storedH_old (atKey_cons_eq hy), List.map_cons, putAt_out (hy ▸ hn.1), putAt, if_pos hy]
      exact .cons ⟨h.1, h.2.1, rv⟩ t
    · have hy : ¬ y.1 = k := fun z => hk (h.1.trans z)
      rw [if_neg hk]
      have ih := putT_pair (b := b) rv t hn.2 (k := k)
      unfold storedH at ih ⊢
      rw [atKey_cons_ne hy]
      split
      · rename_i hs
        rw [if_pos hs] at ih
        rw [List.map_cons, putAt, if_neg hy]
        exact .cons h ih
      · rename_i hs
        rw [if_neg hs] at ih
        exact .cons h ih
theorem n_setItem {pins : List (Addr × Obj)} {s : Shared} {σ : L2.St} {H : Hp} {a b : Addr} {ents : List Ent} {k : NestedKey} {v : V} {r : Value} {A : Around} {E : Value → Shared → Prop} {Q : Unit → Shared → Prop} (hu : A.units + 64 < cLine) (I : Inv X pins σ H s) (hd : H a = some (dO X.w a ents))
    (kr : Reps X.w X.K H (ents.map fun e => V.ref e.2.1) (kds (ents.map (·.1)))) (dp : ∀ k ∈ ents.map (·.1), k.depth ≤ 8) (ki : (nestedKind X.prog X.w).is s.heap k b) (rv : RelV v r) (hl : ents.length < sizeLine)
    (h : ∀ s', Inv X pins σ (upd H a (dO X.w a (putT ents k b v))) s' → Q () s') : wpAny (model X.prog X.w) A (setItem (.ref a) (.ref b) r) Q E s := by
  obtain ⟨xs, pr, dd, hsm, hz⟩ := dict_is I (.inl hd) kr dp
  have hx : xs.length ≤ sizeLine := by rw [← Paired.length pr]; exact hz
  have hn : (xs.map (·.1)).Nodup := dd.nodup
  refine wpAny_setItem_heap (hsz := hx) (room8 hu) ki dd fun h' dd' hs => h _ ?_
  obtain ⟨q, es, ep, hq, h2, h3, h4, _, h5⟩ := dd'
  exact d_write I (by rw [hd]; exact True.intro) hs ⟨q, hq⟩ (ext_ok ⟨by have := putT_len k b v ents; omega, hsm, _, q, es, ep, putT_pair rv pr hn, hq, h2, h3, h4, h5⟩)
/-! ints and texts as keys -/
def putM (es : List (Key × D)) (k : Key) (d : D) : List (Key × D) := if (es.any fun e => decide (e.1 = k)) = true then es.map (fun e => if e.1 = k then (e.1, d) else e) else es ++ [(k, d)]
def dropM (es : List (Key × D)) (k : Key) : List (Key × D) := es.filter fun e => decide (e.1 ≠ k)
theorem keys_any {α β : Type} (k : Key) : ∀ {l : List (Key × α)} {m : List (Key × β)}, l.map (·.1) = m.map (·.1) → (l.any fun e => decide (e.1 = k)) = m.any fun e => decide (e.1 = k)
  | [], [], _ => rfl
  | [], _ :: _, h => nomatch h
  | _ :: _, [], h => nomatch h
  | e :: l, f :: m, h => by
    rw [List.map_cons, List.map_cons] at h
    injection h with h1 h2
    rw [List.any_cons, List.any_cons, keys_any k h2, h1]
theorem putK_M {w : World} {K : PySem.W.Frag} {H : Hp} {kvs : List (Key × V)} {es : List (Key × D)} (k : Key) {v : V} {d : D} (hk : kvs.map (·.1) = es.map (·.1)) (r : Reps w K H (kvs.map (·.2)) (es.map (·.2))) (rv : Rep w K H v d) :
    (putK kvs k v).map (·.1) = (putM es k d).map (·.1) ∧ Reps w K H ((putK kvs k v).map (·.2)) ((putM es k d).map (·.2)) := by
  unfold putK putM
  rw [keys_any k hk]
  split
  · have all : ∀ {l : List (Key × V)} {m : List (Key × D)}, l.map (·.1) = m.map (·.1) → Reps w K H (l.map (·.2)) (m.map (·.2)) →
        (l.map (fun kv => if kv.1 = k then (kv.1, v) else kv)).map (·.1) = (m.map (fun e => if e.1 = k then (e.1, d) else e)).map (·.1) ∧ Reps w K H ((l.map (fun kv => if kv.1 = k then (kv.1, v) else kv)).map (·.2)) ((m.map (fun e => if e.1 = k then (e.1, d) else e)).map (·.2)) := by
      intro l
      induction l with
      | nil =>
        intro m h r
        cases m with
        | nil => exact ⟨rfl, .nil⟩
        | cons _ _ => cases h
      | cons e l ih =>
        intro m h r
        cases m with
        | nil => cases h
        | cons f m =>
          rw [List.map_cons, List.map_cons] at h
          injection h with h1 h2
          cases r with
          | cons r1 r2 =>
            obtain ⟨i1, i2⟩ := ih h2 r2
            rw [List.map_cons, List.map_cons, List.map_cons, List.map_cons, List.map_cons, List.map_cons, h1]
            by_cases hf : f.1 = k
            · rw [if_pos hf, if_pos hf]
              exact ⟨by rw [i1], .cons rv i2⟩
            · rw [if_neg hf, if_neg hf]
              exact ⟨by rw [i1, h1], .cons r1 i2⟩
    exact all hk r
  · rw [List.map_append, List.map_append, List.map_append, List.map_append, hk]
    exact ⟨rfl, r.append (.cons rv .nil)⟩
theorem dropK_M {w : World} {K : PySem.W.Frag} {H : Hp} (k : Key) : ∀ {kvs : List (Key × V)} {es : List (Key × D)}, kvs.map (·.1) = es.map (·.1) → Reps w K H (kvs.map (·.2)) (es.map (·.2)) →
    (dropK kvs k).map (·.1) = (dropM es k).map (·.1) ∧ Reps w K H ((dropK kvs k).map (·.2)) ((dropM es k).map (·.2))
  | [], [], _, _ => ⟨rfl, .nil⟩
  | [], _ :: _, h, _ => nomatch h
  | _ :: _, [], h, _ => nomatch h
  | e :: l, f :: m, h, r => by
    rw [List.map_cons, List.map_cons] at h
    injection h with h1 h2
    cases r with
    | cons r1 r2 =>
      obtain ⟨i1, i2⟩ := dropK_M k h2 r2
      unfold dropK dropM at i1 i2 ⊢
      by_cases hf : f.1 = k
      · have he : e.1 = k := h1.trans hf
        rw [List.filter_cons_of_neg (by simp [he]), List.filter_cons_of_neg (by simp [hf])]
        exact ⟨i1, i2⟩
      · have he : ¬ e.1 = k := fun z => hf (h1.symm.trans z)
        rw [List.filter_cons_of_pos (by simp [he]), List.filter_cons_of_pos (by simp [hf]), List.map_cons, List.map_cons, List.map_cons, List.map_cons]
        exact ⟨by rw [h1, i1], .cons r1 i2⟩
end
end Deep
set_option maxRecDepth 100000
set_option maxHeartbeats 4000000
namespace Deep
open PySem PySem.Spec PyProof.Rows L2

section
variable {X : Cx} {pos : Pos}
/-! ### {k: v}, a nested key -/
def tDisp1 (X : Cx) (tk tv : TE) : TE := fun σ H Q => ∀ p, H p = none → tk σ (upd H p (dO X.w p [])) fun x H1 => tv σ H1 fun y H2 => ∃ (dx : D) (k : NestedKey) (b : Addr), RdR X.w X.K H2 x dx ∧ keyOf dx = some k ∧ x = .ref b ∧ H2 p = some (dO X.w p []) ∧ Q (.ref p) (upd H2 p (dO X.w p [(k, b, y)]))
theorem pe_disp1 {ke ve : Expr} {tk tv : TE} (hu : X.A.units + 64 < cLine) (hk : PE X ke tk) (hv : PE X ve tv) : PE X (.Dict [some ke] [ve] pos) (tDisp1 X tk tv) := by
  refine ⟨fun pins s σ H Q I h => ?_⟩
  have hn := I.hok.fresh (Nat.le_refl s.heap.objs.size)
  have I1 := I.laid (a := s.heap.objs.size) (o := dO X.w s.heap.objs.size []) (h' := s.heap.push { cls := .type "dict", data := .dict #[] }) (t' := s.toks) (fun _ _ q => Heap.get?_push_of_some _ q) (Nat.le_refl _) (ext_ok (new_DOb X.w s.heap I.big))
  rw [arm_eval_Dict, zip_pairTrees [some ke] [ve] X.env pos rfl rfl, dictDisplay_pairs (pairTrees [some ke] [ve] X.env pos) (by intro z; cases z) (show (1 : Nat) < 17 by decide)]
  refine wpAny_bind (wpAny_standAt (wpAny_bind (wpAny_subDictH (knd := nestedKind X.prog X.w) (by show X.A.units + 8 < cLine; omega) (show (1 : Nat) ≤ 15 by decide) ?_)))
  refine pairTrees_cons_walk (thn (hk.run pins _ σ _ _ I1 (h _ hn)) fun u s1 ⟨x, H1, I2, rx, q1⟩ => thn (hv.run pins s1 σ H1 _ I2 q1) fun v s2 ⟨y, H2, I3, ry, dx, k, b, r1, hk1, ex, hp, q2⟩ => pairTrees_nil_walk ?_)
  subst ex
  obtain ⟨b', e1, e2, rb, dp, ki⟩ := key_is I3 r1 hk1 rx
  cases e1
  subst e2
  obtain ⟨xs, pr, dd, hsm, hz⟩ := dict_is I3 (.inl hp) .nil (fun _ z => nomatch z)
  cases pr
  refine ⟨[(k, b, v)], ⟨rfl, rfl, ki, trivial⟩, dd, fun h' tk hd' hs => wpAny_pure ?_⟩
  obtain ⟨q, es, ep, hq, h2, h3, h4, _, h5⟩ := hd'
  refine ⟨.ref s.heap.objs.size, _, ?_, rfl, q2⟩
  exact d_write I3 (by rw [hp]; exact True.intro) hs ⟨q, hq⟩ (ext_ok ⟨show (1 : Nat) ≤ sizeLine by rw [sizeLine_eq]; decide, hsm, _, q, es, ep, .cons ⟨rfl, rfl, ry⟩ .nil, hq, h2, h3, h4, h5⟩)
def fDisp1 (f1 f2 : DSt → Option D) : DSt → Option MO := fun σ => ((f1 σ).bind keyOf).bind fun k => (f2 σ).map fun d => MO.dic [(k, d)]
theorem d_disp1 {ke ve : Expr} {f1 f2 : DSt → Option D} (hu : X.A.units + 64 < cLine) (hk : DR X ke f1) (hv : DE X ve f2) : DN X (.Dict [some ke] [ve] pos) (fDisp1 f1 f2) := by
  obtain ⟨t, pe, p⟩ := hk
  obtain ⟨u, pe2, p2⟩ := hv
  refine ⟨_, pe_disp1 hu pe pe2, fun G σD σV H Q m rl e q => ?_⟩
  obtain ⟨k, e1, e⟩ := Option.bind_eq_some_iff.mp e
  obtain ⟨dx, e1, e2⟩ := Option.bind_eq_some_iff.mp e1
  obtain ⟨d, e3, rfl⟩ := Option.map_eq_some_iff.mp e
  intro a ha
  refine p G σD σV _ _ dx (rl.grow (upd_same_of ha)) e1 fun v H1 s1 r1 => ?_
  refine p2 G σD σV H1 _ d ((rl.grow (upd_same_of ha)).grow s1) e3 fun v2 H2 s2 r2 => ?_
  have hp : H2 a = some (dO X.w a []) := s2 _ _ (s1 _ _ upd_same)
  have r1' := r1.same s2
  obtain ⟨⟨xs, hx⟩, e4, dp⟩ := keyOf_tup e2
  subst hx
  obtain ⟨b, vs, rfl, hs, rp⟩ := r1'.tup
  refine ⟨_, k, b, r1', e2, rfl, hp, q _ _ (fun c o hc => ?_) ⟨a, rfl, ha, _, upd_same, _, rfl, rfl, ?_, ?_, fun j hj => ?_⟩⟩
  · have hca : c ≠ a := ne_of_none hc ha
    rw [upd_ne hca]
    exact s2 _ _ (s1 _ _ (by rw [upd_ne hca]; exact hc))
  · have kk : Kept H2 (upd H2 a (dO X.w a [(k, b, v2)])) := .write hp True.intro
    refine .cons ?_ .nil
    rw [kd_of e4]
    exact Rep.mono kk (.tup hs rp)
  · have kk : Kept H2 (upd H2 a (dO X.w a [(k, b, v2)])) := .write hp True.intro
    exact .cons (Rep.mono kk r2) .nil
  · have : j = k := by simpa using hj
    rw [this]; exact dp

/-! ### {"a": x, ..}, written texts as keys -/
def fPairs : List (Str × (DSt → Option D)) → DSt → Option (List (Key × D))
  | [], _ => some []
  | p :: ps, σ => (p.2 σ).bind fun d => (fPairs ps σ).bind fun es => some ((.inr p.1, d) :: es)
def DPs (X : Cx) (pos : Pos) (keys : List (Option Expr)) (values : List Expr) (fs : List (Str × (DSt → Option D))) : Prop :=
  ∃ trs : List (TE × TE), PPs X pos keys values trs ∧ fs.length ≤ 15 ∧ ∀ (G : Hp) (σD : DSt) (σV : L2.St) (H : Hp) (Q : List (V × V) → Hp → Prop) (es : List (Key × D)), DRel X.w X.K G σD σV H → fPairs fs σD = some es →
    (∀ (kvs : List (Key × V)) H', Same H H' → kvs.map (·.1) = es.map (·.1) → Reps X.w X.K H' (kvs.map (·.2)) (es.map (·.2)) → Q (kvs.map fun kv => (kV kv.1, kv.2)) H') → tPairs trs σV H Q
theorem dps_nil : DPs X pos [] [] [] := ⟨[], pps_nil, by decide, fun G σD σV H Q es rl e q => by cases e; exact q [] H (Same.refl H) rfl .nil⟩
theorem dps_cons {x : Str} {j : Nat} {p1 : Pos} {v : Expr} {ks : List (Option Expr)} {vs : List Expr} {f : DSt → Option D} {fs : List (Str × (DSt → Option D))} (hv : DE X v f) (hr : DPs X pos ks vs fs) (hl : fs.length ≤ 14 := by decide) :
    DPs X pos (some (.Constant (.str x) j p1) :: ks) (v :: vs) ((x, f) :: fs) := by
  obtain ⟨t, pe, p⟩ := hv
  obtain ⟨trs, pp, _, q1⟩ := hr
  refine ⟨_, pps_cons pe_str pe pp, by rw [List.length_cons]; omega, fun G σD σV H Q es rl e q => ?_⟩
  obtain ⟨d, e1, e⟩ := Option.bind_eq_some_iff.mp e
  obtain ⟨es', e2, e⟩ := Option.bind_eq_some_iff.mp e
  cases e
  refine p G σD σV H _ d rl e1 fun z H1 s1 r1 => ?_
  refine q1 G σD σV H1 _ es' (rl.grow s1) e2 fun kvs H2 s2 hk r2 => ?_
  exact q ((.inr x, z) :: kvs) H2 (s1.trans s2) (by rw [List.map_cons, List.map_cons, hk]) (.cons (Rep.mono (.same s2) r1) r2)
def mergeM (es : List (Key × D)) : List (Key × D) := es.foldl (fun acc e => putM acc e.1 e.2) []
theorem merge_M {w : World} {K : PySem.W.Frag} {H : Hp} : ∀ {kvs : List (Key × V)} {es : List (Key × D)} {acc : List (Key × V)} {acc2 : List (Key × D)}, kvs.map (·.1) = es.map (·.1) → Reps w K H (kvs.map (·.2)) (es.map (·.2)) → acc.map (·.1) = acc2.map (·.1) → Reps w K H (acc.map (·.2)) (acc2.map (·.2)) →
    (mergeK acc kvs).map (·.1) = (es.foldl (fun acc e => putM acc e.1 e.2) acc2).map (·.1) ∧ Reps w K H ((mergeK acc kvs).map (·.2)) ((es.foldl (fun acc e => putM acc e.1 e.2) acc2).map (·.2))
  | [], [], _, _, _, _, h, r => ⟨h, r⟩
  | [], _ :: _, _, _, h, _, _, _ => nomatch h
  | _ :: _, [], _, _, h, _, _, _ => nomatch h
  | e :: kvs, f :: es, acc, acc2, h, r, h2, r2 => by
    rw [List.map_cons, List.map_cons] at h
    injection h with h3 h4
    cases r with
    | cons ra rb =>
      obtain ⟨i1, i2⟩ := putK_M f.1 h2 r2 ra
      have e1 : mergeK acc (e :: kvs) = mergeK (putK acc f.1 e.2) kvs := by rw [← h3]; rfl
      rw [e1, List.foldl_cons]
      exact merge_M h4 rb i1 i2
def fDisp (fs : List (Str × (DSt → Option D))) : DSt → Option MO := fun σ => (fPairs fs σ).map fun es => MO.dicK (mergeM es)
theorem fPairs_len : ∀ {fs : List (Str × (DSt → Option D))} {σ : DSt} {es : List (Key × D)}, fPairs fs σ = some es → es.length = fs.length
  | [], _, _, h => by cases h; rfl
  | p :: ps, σ, es, h => by
    obtain ⟨d, e1, e⟩ := Option.bind_eq_some_iff.mp h
    obtain ⟨es', e2, e⟩ := Option.bind_eq_some_iff.mp e
    cases e
    rw [List.length_cons, List.length_cons, fPairs_len e2]
theorem d_disp {keys : List (Option Expr)} {values : List Expr} {fs : List (Str × (DSt → Option D))} (h : DPs X pos keys values fs) (hall : keys.all (·.isSome) = true := by rfl) (hl : keys.length = values.length := by rfl) (h0 : keys ≠ [] := by intro z; cases z)
    (h15 : keys.length ≤ 15 := by decide) : DN X (.Dict keys values pos) (fDisp fs) := by
  obtain ⟨trs, pp, l15, p⟩ := h
  refine ⟨_, pe_disp pp hall hl h0 h15, fun G σD σV H Q m rl e q => ?_⟩
  obtain ⟨es, e1, rfl⟩ := Option.map_eq_some_iff.mp e
  intro a ha
  refine p G σD σV _ _ es (rl.grow (upd_same_of ha)) e1 fun kvs H2 s2 hk r2 => ⟨s2 _ _ upd_same, kvs, rfl, ?_, ?_⟩
  · have h1 := congrArg List.length hk
    rw [List.length_map, List.length_map, fPairs_len e1] at h1
    omega
  · obtain ⟨i1, i2⟩ := merge_M (acc := []) (acc2 := []) hk r2 rfl .nil
    have kk : Kept H2 (upd H2 a (.dK (mergeK [] kvs))) := .write (s2 _ _ upd_same) True.intro
    refine q _ _ (fun c o hc => ?_) ⟨a, rfl, ha, _, upd_same, _, rfl, i1, i2.mono kk⟩
    have hca : c ≠ a := ne_of_none hc ha
    rw [upd_ne hca]
    exact s2 _ _ (by rw [upd_ne hca]; exact hc)

/-! ### the reading that says just what the function says -/
def canE {α : Type} (w : World) (K : PySem.W.Frag) (R : Hp → Hp → V → α → Prop) (f : DSt → Option α) : TE := fun σV H Q => ∃ (G : Hp) (σD : DSt) (a : α), DRel w K G σD σV H ∧ f σD = some a ∧ ∀ v H', Same H H' → R H H' v a → Q v H'
theorem can_e {α : Type} {e : Expr} {R : Hp → Hp → V → α → Prop} {f : DSt → Option α} (h : EvG X e R f) : PE X e (canE X.w X.K R f) := by
  obtain ⟨t, pe, p⟩ := h
  exact ⟨fun pins s σ H Q I ⟨G, σD, a, rl, e, q⟩ => pe.run pins s σ H Q I (p G σD σ H Q a rl e q)⟩
def canT (w : World) (K : PySem.W.Frag) (f : DSt → Option Bool) : TT := fun σV H Q => ∃ (G : Hp) (σD : DSt) (b : Bool), DRel w K G σD σV H ∧ f σD = some b ∧ ∀ H', Same H H' → Q b H'
theorem can_t {e : Expr} {f : DSt → Option Bool} (h : DT X e f) : PT X e (canT X.w X.K f) := by
  obtain ⟨t, pe, p⟩ := h
  exact ⟨fun pins s σ H Q I ⟨G, σD, a, rl, e, q⟩ => pe.run pins s σ H Q I (p G σD σ H Q a rl e q)⟩
def fYes : DSt → Option Bool := fun _ => some true
theorem can_ts0 : PTs X [] (canT X.w X.K fYes) := ⟨fun pins s σ H Q I ⟨G, σD, a, rl, e, q⟩ => by cases e; exact pts_nil.run pins s σ H Q I (q H (Same.refl H))⟩
theorem can_ts1 {e : Expr} {f : DSt → Option Bool} (h : DT X e f) : PTs X [e] (canT X.w X.K f) := pts_one (can_t h)

/-! ### targets that are names -/
/-- the names stored are at vs -/
def DGn (X : Cx) (tg : Expr) (vs : List Nat) (g : D → DSt → Option DSt) : Prop :=
  ∃ t : TG, PG X tg t ∧ ∀ (G : Hp) (σD : DSt) (σV : L2.St) (H : Hp) (v : V) (d : D) (Q : L2.St → Hp → Prop) (σD' : DSt), DRel X.w X.K G σD σV H → Rep X.w X.K H v d → g d σD = some σD' →
    (∀ σV', DRel X.w X.K G σD' σV' H → σV'.length = σV.length → (∀ j, j ∉ vs → σV'[j]? = σV[j]?) → Q σV' H) → t v σV H Q
def canG (w : World) (K : PySem.W.Frag) (vs : List Nat) (g : D → DSt → Option DSt) : TG := fun v σV H Q => ∃ (G : Hp) (σD : DSt) (d : D) (σD' : DSt), DRel w K G σD σV H ∧ Rep w K H v d ∧ g d σD = some σD' ∧
  ∀ σV', DRel w K G σD' σV' H → σV'.length = σV.length → (∀ j, j ∉ vs → σV'[j]? = σV[j]?) → Q σV' H
theorem can_g {tg : Expr} {vs : List Nat} {g : D → DSt → Option DSt} (h : DGn X tg vs g) : PG X tg (canG X.w X.K vs g) := by
  obtain ⟨t, pg, p⟩ := h
  exact ⟨fun pins s σ H v u Q I r ⟨G, σD, d, σD', rl, rp, e, q⟩ => pg.run pins s σ H v u Q I r (p G σD σ H v d Q σD' rl rp e q)⟩
def gNm (i : Nat) : D → DSt → Option DSt := fun d σ => some (σ.set i (some (.im d)))
theorem dg_name {i : Nat} {x : Str} (hN : X.N.Nodup) (hi : X.N[i]? = some x := by rfl) (hx : Loc X.env.scope x := by first | exact Or.inl rfl | exact Or.inr rfl) (hf : X.fn x = true ∨ X.env.scope.names.lookup x = some .local := by first | exact .inl rfl | exact .inr rfl | assumption) : DGn X (.Name x pos) [i] (gNm i) := by
  refine ⟨gName i, pg_name hN hi hx hf, fun G σD σV H v d Q σD' rl rp e q => ?_⟩
  cases e
  refine q _ (rl.setIm rp i) (List.length_set ..) fun j hj => ?_
  rw [List.getElem?_set_ne (fun z => hj (by simp [z]))]
def DGns (X : Cx) (ts : List Expr) (vs : List Nat) (g : List D → DSt → Option DSt) : Prop :=
  ∃ t : TGs, PGs X ts t ∧ ∀ (G : Hp) (σD : DSt) (σV : L2.St) (H : Hp) (us : List V) (ds : List D) (Q : L2.St → Hp → Prop) (σD' : DSt), DRel X.w X.K G σD σV H → Reps X.w X.K H us ds → g ds σD = some σD' →
    (∀ σV', DRel X.w X.K G σD' σV' H → σV'.length = σV.length → (∀ j, j ∉ vs → σV'[j]? = σV[j]?) → Q σV' H) → t us σV H Q
def gsNil : List D → DSt → Option DSt := fun ds σ => match ds with
  | [] => some σ
  | _ => none
def gsCons (g : D → DSt → Option DSt) (h : List D → DSt → Option DSt) : List D → DSt → Option DSt := fun ds σ => match ds with
  | d :: r => (g d σ).bind fun σ' => h r σ'
  | [] => none
theorem dgs_nil : DGns X [] [] gsNil := by
  refine ⟨_, pgs_nil, fun G σD σV H us ds Q σD' rl rp e q => ?_⟩
  cases rp with
  | nil => cases e; exact ⟨rfl, q σV rl rfl fun _ _ => rfl⟩
  | cons r t => cases e
theorem dgs_cons {e : Expr} {es : List Expr} {vs us : List Nat} {g : D → DSt → Option DSt} {h : List D → DSt → Option DSt} (h1 : DGn X e vs g) (h2 : DGns X es us h)
    (hs : (assignEach (e :: es) X.env).map (·.2) = assign e X.env :: (assignEach es X.env).map (·.2) := by rfl) : DGns X (e :: es) (vs ++ us) (gsCons g h) := by
  obtain ⟨t, pg, p⟩ := h1
  obtain ⟨u, pgs, p2⟩ := h2
  refine ⟨_, pgs_cons pg pgs hs, fun G σD σV H xs ds Q σD' rl rp e q => ?_⟩
  cases rp with
  | nil => cases e
  | cons r1 r2 =>
    obtain ⟨σ1, e1, e⟩ := Option.bind_eq_some_iff.mp e
    refine ⟨_, _, rfl, p G σD σV H _ _ _ σ1 rl r1 e1 fun σV1 rl1 l1 o1 => ?_⟩
    exact p2 G σ1 σV1 H _ _ Q σD' rl1 r2 e fun σV2 rl2 l2 o2 => q σV2 rl2 (l2.trans l1) fun j hj => (o2 j fun z => hj (List.mem_append_right _ z)).trans (o1 j fun z => hj (List.mem_append_left _ z))
def gTp (h : List D → DSt → Option DSt) : D → DSt → Option DSt := fun d σ => d.asTup.bind fun ds => h ds σ
theorem dg_tup {es : List Expr} {k : Nat} {vs : List Nat} {h : List D → DSt → Option DSt} {n : Nat} (hc : X.calm = true) (hg : DGns X es vs h) (hl : ∀ ds σ σ', h ds σ = some σ' → ds.length = n)
    (hn : (assignEach es X.env).length = n := by rfl) (hst : (assignEach es X.env).findIdx? (·.1) = none := by rfl) : DGn X (.Tuple es k pos) vs (gTp h) := by
  obtain ⟨t, pg, p⟩ := hg
  refine ⟨_, pg_tup hc pg hn hst, fun G σD σV H v d Q σD' rl rp e q => ?_⟩
  obtain ⟨ds, e1, e⟩ := Option.bind_eq_some_iff.mp e
  have e1 := asTup_some e1
  subst e1
  obtain ⟨a, us, rfl, hs, ru⟩ := RdR.tup (.inl rp)
  exact ⟨a, us, rfl, hs, by rw [ru.length]; exact hl ds σD σD' e, p G σD σV H us ds Q σD' rl ru e q⟩

/-! ### what is walked -/
/-- the iterator J yields the data ds, whatever comes after H0 -/
structure Wlk (w : World) (K : PySem.W.Frag) (J : It) (H0 : Hp) (ds : List D) : Prop where
  go : ∀ i H, Kept H0 H → i < ds.length → J.go i H
  stop : ∀ H, Kept H0 H → J.stop ds.length H
  yld : ∀ i H x H', Kept H0 H → i < ds.length → J.yld i H x H' → ∃ d, ds[i]? = some d ∧ Same H H' ∧ Rep w K H' x d
def DI (X : Cx) (tg e : Expr) (f : DSt → Option (List D)) : Prop :=
  ∃ wi : TI, PI X tg e wi ∧ ∀ (G : Hp) (σD : DSt) (σV : L2.St) (H : Hp) (R : It → Hp → Prop) (ds : List D), DRel X.w X.K G σD σV H → f σD = some ds → (∀ J H', Same H H' → Wlk X.w X.K J H' ds → R J H') → wi σV H R
def fSeq (f : DSt → Option D) (g : D → Option (List D)) : DSt → Option (List D) := fun σ => (f σ).bind g
theorem wlk_list {w : World} {K : PySem.W.Frag} {H0 : Hp} {a : Addr} {o : Obj} {vs : List V} {ds : List D} (h : H0 a = some (.frz o (.lst vs))) (r : Reps w K H0 vs ds) : Wlk w K (Itl K a) H0 ds where
  go := fun i H k hi => by
    have hv : i < vs.length := by rw [r.length]; exact hi
    exact ⟨vs, vs[i], .inl (.inr ⟨o, k.f _ _ _ h⟩), List.getElem?_eq_getElem hv⟩
  stop := fun H k => ⟨vs, .inl (.inr ⟨o, k.f _ _ _ h⟩), by rw [r.length]; exact Nat.le_refl _⟩
  yld := fun i H x H' k hi hy => by
    obtain ⟨rfl, hx⟩ := hy
    obtain ⟨d, hd, rd⟩ := (r.mono k).get' (hx vs (.inl (.inr ⟨o, k.f _ _ _ h⟩)))
    exact ⟨d, hd, Same.refl _, rd⟩
theorem di_list {tg e : Expr} {f : DSt → Option D} (h : DE X e f) : DI X tg e (fSeq f D.asLst) := by
  obtain ⟨t, pe, p⟩ := h
  refine ⟨_, pi_list pe, fun G σD σV H R ds rl e q => ?_⟩
  obtain ⟨d, e1, e⟩ := Option.bind_eq_some_iff.mp e
  have e := asLst_some e
  subst e
  refine p G σD σV H _ _ rl e1 fun v H1 s1 r1 => ?_
  cases r1 with
  | lst hs r => exact ⟨_, rfl, ⟨_, .inl (.inr ⟨_, hs⟩)⟩, q _ H1 s1 (wlk_list hs r)⟩
theorem di_tup {tg e : Expr} {f : DSt → Option D} (h : DE X e f) : DI X tg e (fSeq f D.asTup) := by
  obtain ⟨t, pe, p⟩ := h
  refine ⟨_, pi_tup pe, fun G σD σV H R ds rl e q => ?_⟩
  obtain ⟨d, e1, e⟩ := Option.bind_eq_some_iff.mp e
  have e := asTup_some e
  subst e
  refine p G σD σV H _ _ rl e1 fun v H1 s1 r1 => ?_
  cases r1 with
  | @tup a vs _ hs r =>
    refine ⟨_, rfl, ⟨_, hs⟩, q _ H1 s1 ⟨fun i H k hi => ?_, fun H k => ⟨vs, k.seq hs, by rw [r.length]; exact Nat.le_refl _⟩, fun i H x H' k hi hy => ?_⟩⟩
    · have hv : i < vs.length := by rw [r.length]; exact hi
      exact ⟨vs, vs[i], k.seq hs, List.getElem?_eq_getElem hv⟩
    · obtain ⟨rfl, hx⟩ := hy
      obtain ⟨d, hd, rd⟩ := (r.mono k).get' (hx vs (k.seq hs))
      exact ⟨d, hd, Same.refl _, rd⟩
def rngD (lo : Int) (n : Nat) : List D := (List.range n).map fun (i : Nat) => D.int (lo + i)
theorem rngD_get {lo : Int} {n i : Nat} (h : i < n) : (rngD lo n)[i]? = some (.int (lo + i)) := by
  unfold rngD
  rw [List.getElem?_map, List.getElem?_range h]
  rfl
theorem rngD_len (lo : Int) (n : Nat) : (rngD lo n).length = n := by unfold rngD; rw [List.length_map, List.length_range]
theorem wlk_rng {w : World} {K : PySem.W.Frag} {H0 : Hp} (lo : Int) (n : Nat) : Wlk w K (Itr lo n) H0 (rngD lo n) where
  go := fun i H k hi => by rw [rngD_len] at hi; exact hi
  stop := fun H k => by rw [rngD_len]; exact Nat.le_refl n
  yld := fun i H x H' k hi hy => by
    rw [rngD_len] at hi
    obtain ⟨rfl, rfl⟩ := hy
    exact ⟨_, rngD_get hi, Same.refl _, .int _⟩
def fRng1 (f : DSt → Option D) : DSt → Option (List D) := fun σ => ((f σ).bind D.asInt).bind fun j => if -1000000 ≤ j ∧ j ≤ 1000000 then some (rngD 0 j.toNat) else none
theorem di_rng1 {tg a : Expr} {p p2 : Pos} {f : DSt → Option D} (ha : DE X a f) (hg : Gl X "range") (hm : X.mg "range" = none) (hs : starEach [a] X.env = [(false, eval a X.env)] := by rfl) : DI X tg (.Call (.Name "range" p) [a] [] p2) (fRng1 f) := by
  obtain ⟨t, pe, pq⟩ := ha
  refine ⟨_, pi_range1 hg hm (pa_cons pe pa_nil hs) hs, fun G σD σV H R ds rl e q => ?_⟩
  obtain ⟨j, e1, e⟩ := Option.bind_eq_some_iff.mp e
  obtain ⟨d, e1, e2⟩ := Option.bind_eq_some_iff.mp e1
  have e2 := asInt_some e2
  subst e2
  split at e
  · rename_i hj
    cases e
    refine pq G σD σV H _ _ rl e1 fun v H1 s1 r1 => ⟨j, by rw [RdR.int (.inl r1)], by omega, by omega, q _ H1 s1 (wlk_rng 0 _)⟩
  · cases e
def fRng2 (f1 f2 : DSt → Option D) : DSt → Option (List D) := fun σ => ((f1 σ).bind D.asInt).bind fun i => ((f2 σ).bind D.asInt).bind fun j => if (-1000000 ≤ i ∧ i ≤ 1000000) ∧ -1000000 ≤ j ∧ j ≤ 1000000 then some (rngD i (j - i).toNat) else none
theorem di_rng2 {tg a b : Expr} {p p2 : Pos} {f1 f2 : DSt → Option D} (ha : DE X a f1) (hb : DE X b f2) (hg : Gl X "range") (hm : X.mg "range" = none) (hs : starEach [a, b] X.env = [(false, eval a X.env), (false, eval b X.env)] := by rfl) (hs2 : starEach [b] X.env = [(false, eval b X.env)] := by rfl) : DI X tg (.Call (.Name "range" p) [a, b] [] p2) (fRng2 f1 f2) := by
  obtain ⟨t, pe, pq⟩ := ha
  obtain ⟨u, pe2, pq2⟩ := hb
  refine ⟨_, pi_range2 hg hm (pa_cons pe (pa_cons pe2 pa_nil hs2) (by rw [hs, hs2])) hs hs2, fun G σD σV H R ds rl e q => ?_⟩
  obtain ⟨i, e1, e⟩ := Option.bind_eq_some_iff.mp e
  obtain ⟨d, e1, e2⟩ := Option.bind_eq_some_iff.mp e1
  have e2 := asInt_some e2
  subst e2
  obtain ⟨j, e3, e⟩ := Option.bind_eq_some_iff.mp e
  obtain ⟨d, e3, e4⟩ := Option.bind_eq_some_iff.mp e3
  have e4 := asInt_some e4
  subst e4
  split at e
  · rename_i hj
    cases e
    refine pq G σD σV H _ _ rl e1 fun v H1 s1 r1 => ?_
    refine pq2 G σD σV H1 _ _ (rl.grow s1) e3 fun v2 H2 s2 r2 => ?_
    exact ⟨i, j, by rw [RdR.int (.inl r1), RdR.int (.inl r2)], by omega, q _ H2 (s1.trans s2) (wlk_rng i _)⟩
  · cases e
/-! a locked dict's keys -/
def ItN (w : World) (a : Addr) (o : Obj) (ents : List Ent) : It :=
  ⟨fun i H => H a = some (.frz o (dO w a ents)) ∧ i < ents.length, fun i H x H' => H' = H ∧ ∃ e : Ent, ents[i]? = some e ∧ x = .ref e.2.1, fun i H => H a = some (.frz o (dO w a ents)) ∧ ents.length ≤ i⟩
theorem frzN {pins : List (Addr × Obj)} {σ : L2.St} {H : Hp} {s : Shared} {a : Addr} {o : Obj} {ents : List Ent} (I : Inv X pins σ H s) (h : H a = some (.frz o (dO X.w a ents))) :
    (a == sysModules) = false ∧ s.heap.get? a = some o ∧ o.ExactDict ∧ ents.length ≤ sizeLine ∧ ∃ (es : Array DictEntry) (ep : Nat), o.data = .dict es ep ∧ es.size = ents.length ∧ ∀ (i : Nat) (e : Ent), ents[i]? = some e → ∃ en : DictEntry, es[i]? = some en ∧ en.key = .ref e.2.1 := by
  obtain ⟨hd, ⟨z, hs, xs, o', es, ep, pr, ho, hx, hdt, he, _⟩, _⟩ := I.hok a _ h
  rw [hd] at ho
  cases ho
  have he' : es.toList = xs.map (entryOfKey (nestedKind X.prog X.w)) := he
  refine ⟨hs, hd, hx, z, es, ep, hdt, ?_, fun i e e1 => ?_⟩
  · have l1 : es.size = xs.length := size_of_entries he'
    have l2 : ents.length = xs.length := Paired.length pr
    omega
  · obtain ⟨b, hb, e2⟩ := paired_get pr e1
    have q := entry_at he' i
    rw [hb] at q
    exact ⟨_, q, by rw [e2.2.1]; rfl⟩
theorem turn_N {P : Program} {w : World} {K : PySem.W.Frag} {tg : Expr} {d : Addr} {o : Obj} {es : Array DictEntry} {ep : Nat} {ents : List Ent} (it : Addr) (hod : o.data = .dict es ep) : Turn P w K tg (ItN w d o ents) [it] it (fun i h => h.IsKeyIter it d i ents.length ep) where
  mem := by simp
  obj := fun i h st b hb => by
    have e : b = it := by simpa using hb
    subst e
    obtain ⟨oi, e, c, dd⟩ := st
    exact ⟨oi, e, fun v z => by rw [dd] at z; cases z⟩
  keep := fun i h h' st k => st.at fun oi e => k it (by simp) oi e
  item := by
    intro X hP hw hK hc i pins s σ H E I hf st hg
    subst hP hw hK
    obtain ⟨hd, hi⟩ := hg
    obtain ⟨f0, f1, f2, f3, f4, f5⟩ := hf it (by simp)
    obtain ⟨hs, hgd, hx, _, es', ep', hdt, hsz, ent⟩ := frzN I hd
    obtain ⟨rfl, rfl⟩ := dict_ep hod hdt
    obtain ⟨e, he⟩ : ∃ e, ents[i]? = some e := ⟨ents[i], List.getElem?_eq_getElem hi⟩
    obtain ⟨en, hen, hkey⟩ := ent i e he
    refine next_key_item st hgd hdt hsz hen fun h' st' sb => ?_
    have I1 : Inv X pins σ H { s with heap := h' } := I.turned (t' := s.toks) (fun b ob hb e => (sb.2 b hb).trans e) f0 f1 f3 f4 f5
    obtain ⟨oi, e1, c, dd⟩ := id st'
    exact ⟨en.key, rfl, go_of (s := { s with heap := h' }) e1 c dd (by decide) ⟨.ref e.2.1, H, I1, hkey, ⟨rfl, e, he, rfl⟩, st', fun b hb => (hf b hb).1⟩⟩
  done := by
    intro X hP hw hK hc i pins s σ H E I hf st hg
    subst hP hw hK
    obtain ⟨hd, hi⟩ := hg
    obtain ⟨f0, f1, f2, f3, f4, f5⟩ := hf it (by simp)
    obtain ⟨hs, hgd, hx, _, es', ep', hdt, hsz, ent⟩ := frzN I hd
    obtain ⟨rfl, rfl⟩ := dict_ep hod hdt
    exact next_key_end (I.ok.hd hc) st hgd hdt hsz hi fun h' eb => ⟨rfl, I.turned (t' := s.toks) (fun b ob hb e => eb b ob hb e) f0 f1 f3 f4 f5⟩
  self := fun A i s Q E st h => by
    refine wpAny_pyIter_slot st.typeIs F.slot_dict_keyiterator_iter (wpAny_call_entry F.slot_dict_keyiterator_iter st.typeIs F.entry_dict_keyiterator_iter ?_ (F.args_dict_keyiterator_iter_1 _))
    exact (show wpAny _ _ (ret (.ref it)) _ _ s from wpAny_pure ⟨_, rfl, "dict_keyiterator", _, st.typeIs, F.slot_dict_keyiterator_next.lookup, h⟩)
def iKeysN (w : World) (td : TE) : TI := fun σ H R => td σ H fun x H1 => ∃ (d : Addr) (o : Obj) (ents : List Ent), x = .ref d ∧ H1 d = some (.frz o (dO w d ents)) ∧ R (ItN w d o ents) H1
theorem pi_keysN {tg e : Expr} {td : TE} (he : PE X e td) : PI X tg e (iKeysN X.w td) := by
  refine ⟨fun pins s σ H R I h => ?_⟩
  refine thn (he.run pins s σ H _ I h) fun u s1 ⟨x, H1, I1, rx, d, o, ents, ex, hd, q⟩ => ?_
  subst ex
  obtain rfl : u = Value.ref d := rx
  obtain ⟨hs, hgd, hx, _, es, ep, hdt, hsz, ent⟩ := frzN I1 hd
  refine iter_keys hs hgd hx hdt (pi_one (tk := s1.toks) I1 _ (turn_N _ hdt) ⟨_, Heap.get?_push_size _ rfl, rfl, ?_⟩ q)
  rw [hsz] <;> rfl
def D.keys : D → Option (List D)
  | .dic ks _ => some (kds ks)
  | _ => none
theorem kds_len (ks : List NestedKey) : (kds ks).length = ks.length := by rw [kds_map, List.length_map]
theorem di_keys {tg e : Expr} {f : DSt → Option D} (h : DE X e f) : DI X tg e (fSeq f D.keys) := by
  obtain ⟨t, pe, p⟩ := h
  refine ⟨_, pi_keysN pe, fun G σD σV H R ds rl e q => ?_⟩
  obtain ⟨d, e1, e⟩ := Option.bind_eq_some_iff.mp e
  cases d with
  | dic ks vs =>
    cases e
    refine p G σD σV H _ _ rl e1 fun v H1 s1 r1 => ?_
    cases r1 with
    | @dic a o _ _ ents hs e3 r2 r3 z =>
      subst e3
      have hl : (kds (ents.map (·.1))).length = ents.length := by rw [kds_len, List.length_map]
      refine ⟨_, _, ents, rfl, hs, q _ H1 s1 ⟨fun i H k hi => ⟨k.f _ _ _ hs, by rw [hl] at hi; exact hi⟩, fun H k => ⟨k.f _ _ _ hs, by rw [hl]; exact Nat.le_refl _⟩, fun i H x H' k hi hy => ?_⟩⟩
      obtain ⟨rfl, e, he, rfl⟩ := hy
      have hx : (ents.map fun e => V.ref e.2.1)[i]? = some (.ref e.2.1) := by rw [List.getElem?_map, he]; rfl
      obtain ⟨dd, hd, rd⟩ := (r2.mono k).get' hx
      exact ⟨dd, hd, Same.refl _, rd⟩
  | _ => cases e
/-! enumerate of a locked list -/
def numD : Nat → List D → List D
  | _, [] => []
  | n, d :: ds => .tup [.int (n : Nat), d] :: numD (n + 1) ds
theorem numD_len : ∀ (n : Nat) (ds : List D), (numD n ds).length = ds.length
  | _, [] => rfl
  | n, d :: ds => by rw [numD, List.length_cons, List.length_cons, numD_len]
theorem numD_get : ∀ {n i : Nat} {ds : List D} {d : D}, ds[i]? = some d → (numD n ds)[i]? = some (.tup [.int ((n + i : Nat) : Int), d])
  | n, _, [], _, h => by simp at h
  | n, 0, d :: ds, _, h => by simp at h; subst h; rfl
  | n, i + 1, d :: ds, e, h => by
    rw [numD, List.getElem?_cons_succ, numD_get (i := i) (d := e) (by simpa using h)]
    have : n + 1 + i = n + (i + 1) := by omega
    rw [this]
theorem di_enum {e : Expr} {f : DSt → Option D} {p p2 tpos : Pos} {elts : List Expr} {kk : Nat} (h : DE X e f) (hg : Gl X "enumerate") (hm : X.mg "enumerate" = none) (hs : starEach [e] X.env = [(false, eval e X.env)] := by rfl) :
    DI X (.Tuple elts kk tpos) (.Call (.Name "enumerate" p) [e] [] p2) (fSeq f fun d => d.asLst.map (numD 0)) := by
  obtain ⟨t, pe, pq⟩ := h
  refine ⟨_, pi_enum hg hm (pa_cons pe pa_nil hs) hs, fun G σD σV H R ds rl e q => ?_⟩
  obtain ⟨d, e1, e⟩ := Option.bind_eq_some_iff.mp e
  obtain ⟨xs, e0, rfl⟩ := Option.map_eq_some_iff.mp e
  have e2 := asLst_some e0
  subst e2
  refine pq G σD σV H _ _ rl e1 fun v H1 s1 r1 => ?_
  cases r1 with
  | @lst a o vs _ hs r =>
    have sq : ∀ {H : Hp}, Kept H1 H → SqL X.K H a vs := fun k => .inl (.inr ⟨o, k.f _ _ _ hs⟩)
    refine ⟨a, vs, rfl, sq (Kept.refl _), q _ H1 s1 ⟨fun i H k hi => ?_, fun H k => ⟨vs, sq k, by rw [numD_len, r.length]; exact Nat.le_refl _⟩, fun i H x H' k hi hy => ?_⟩⟩
    · rw [numD_len] at hi
      have hv : i < vs.length := by rw [r.length]; exact hi
      exact ⟨vs, vs[i], sq k, List.getElem?_eq_getElem hv⟩
    · obtain ⟨T, y, rfl, hT, rfl, hx⟩ := hy
      obtain ⟨dd, hd, rd⟩ := (r.mono k).get' (hx vs (sq k))
      refine ⟨_, numD_get hd, upd_same_of hT, .tup (.of upd_same) (.cons ?_ (.cons (Rep.mono (.new hT) rd) .nil))⟩
      rw [Nat.zero_add]
      exact .int _
end
end Deep
set_option maxRecDepth 100000
set_option maxHeartbeats 4000000
namespace Deep
open PySem PySem.Spec PyProof.Rows L2

/-! ### comprehensions -/
def wipeD (σ : DSt) : List Nat → DSt
  | [] => σ
  | v :: vs => (wipeD σ vs).set v none
theorem wipeD_len (σ : DSt) : ∀ vs : List Nat, (wipeD σ vs).length = σ.length
  | [] => rfl
  | v :: vs => by rw [wipeD, List.length_set, wipeD_len σ vs]
theorem wipeD_some {σ : DSt} {i : Nat} {x : DV} : ∀ {vs : List Nat}, (wipeD σ vs)[i]? = some (some x) → σ[i]? = some (some x) ∧ i ∉ vs
  | [], h => ⟨h, by simp⟩
  | v :: vs, h => by
    rw [wipeD] at h
    by_cases hi : v = i
    · subst hi
      by_cases hv : v < (wipeD σ vs).length
      · rw [List.getElem?_set_self hv] at h; cases h
      · rw [List.getElem?_eq_none (by simpa using hv)] at h; cases h
    · rw [List.getElem?_set_ne hi] at h
      obtain ⟨h1, h2⟩ := wipeD_some h
      exact ⟨h1, fun z => (List.mem_cons.mp z).elim (fun e => hi e.symm) h2⟩
theorem wipe_in (σ : L2.St) {j : Nat} : ∀ {vs : List Nat}, j ∈ vs → (wipe σ vs)[j]? = if j < σ.length then some none else none
  | [], h => nomatch h
  | v :: vs, h => by
    have hl := wipe_length σ vs
    unfold wipe
    by_cases hv : v = j
    · subst hv
      split
      · rename_i hj
        rw [List.getElem?_set_self (by rw [hl]; exact hj)]
      · rename_i hj
        rw [List.getElem?_eq_none (by rw [List.length_set, hl]; omega)]
    · rw [List.getElem?_set_ne hv]
      exact wipe_in σ ((List.mem_cons.mp h).resolve_left fun e => hv e.symm)
theorem wipe_same {σ σ' : L2.St} {vs : List Nat} (hl : σ'.length = (wipe σ vs).length) (h : ∀ j, j ∉ vs → σ'[j]? = (wipe σ vs)[j]?) : wipe σ' vs = wipe σ vs := by
  have hl' : σ'.length = σ.length := hl.trans (wipe_length σ vs)
  apply List.ext_getElem?
  intro j
  by_cases hj : j ∈ vs
  · rw [wipe_in σ' hj, wipe_in σ hj, hl']
  · rw [wipe_out hj, h j hj]
theorem DRel.wipe {w : World} {K : PySem.W.Frag} {G H : Hp} {σD : DSt} {σV : L2.St} (r : DRel w K G σD σV H) (vs : List Nat) : DRel w K G (wipeD σD vs) (wipe σV vs) H :=
  r.weak (by rw [wipeD_len, wipe_length]; exact r.len) fun i dv e => by
    obtain ⟨h1, h2⟩ := wipeD_some e
    exact ⟨h1, wipe_out h2⟩
def lcGo (σ0 : DSt) (g : D → DSt → Option DSt) (ft : DSt → Option Bool) (fe : DSt → Option D) : List D → Option (List D)
  | [] => some []
  | d :: ds => (g d σ0).bind fun σ1 => (ft σ1).bind fun b => if b = true then (fe σ1).bind fun x => (lcGo σ0 g ft fe ds).bind fun xs => some (x :: xs) else lcGo σ0 g ft fe ds
def fLc (fi : DSt → Option (List D)) (g : D → DSt → Option DSt) (ft : DSt → Option Bool) (fe : DSt → Option D) (vs : List Nat) : DSt → Option MO := fun σ => (fi σ).bind fun ds => if ds.length ≤ 100000 then (lcGo (wipeD σ vs) g ft fe ds).map MO.lst else none
section
variable {X : Cx} {pos : Pos}
/-- what a comprehension's reading gives -/
theorem lc_read {w : World} {K : PySem.W.Frag} {wi : TI} {fi : DSt → Option (List D)} {g : D → DSt → Option DSt} {ft : DSt → Option Bool} {fe : DSt → Option D} {vs : List Nat} {G : Hp} {σD : DSt} {σV : L2.St} {H : Hp} {Q : VK} {m : MO}
    (hwi : ∀ (R : It → Hp → Prop) (ds : List D), fi σD = some ds → (∀ J H', Same H H' → Wlk w K J H' ds → R J H') → wi σV H R) (rl : DRel w K G σD σV H) (e : fLc fi g ft fe vs σD = some m)
    (q : ∀ a H', Same H H' → H a = none → MRep w K H' a m → Q (.ref a) H') : tLc wi (canG w K vs g) (canT w K ft) (canE w K (fun _ H' v d => Rep w K H' v d) fe) vs σV H Q := by
  obtain ⟨ds, e1, e⟩ := Option.bind_eq_some_iff.mp e
  split at e
  · rename_i hlen
    obtain ⟨xs, e2, rfl⟩ := Option.map_eq_some_iff.mp e
    refine hwi _ ds e1 fun J H1 s1 wk => ?_
    intro L hL
    refine ⟨fun i m H2 => i + m = ds.length ∧ ∃ acc accD ys, H2 L = some (.lst acc) ∧ Reps w K H2 acc accD ∧ Same H1 H2 ∧ lcGo (wipeD σD vs) g ft fe (ds.drop i) = some ys ∧ accD ++ ys = xs ∧ accD.length ≤ i,
      ⟨ds.length, by omega, [], [], xs, upd_same, .nil, upd_same_of hL, by rw [List.drop_zero]; exact e2, rfl, Nat.zero_le _⟩, ?_⟩
    rintro i m H2 ⟨hi, acc, accD, ys, h1, h2, s2, h3, h4, h5⟩
    by_cases hlt : i < ds.length
    · have hdr : ds.drop i = ds[i] :: ds.drop (i + 1) := List.drop_eq_getElem_cons hlt
      rw [hdr, lcGo] at h3
      obtain ⟨σ1, e3, h3⟩ := Option.bind_eq_some_iff.mp h3
      obtain ⟨b, e4, h3⟩ := Option.bind_eq_some_iff.mp h3
      refine .inr ⟨wk.go i H2 (.same s2) hlt, fun H' => i + 1 + (m - 1) = ds.length ∧ ∃ acc accD ys, H' L = some (.lst acc) ∧ Reps w K H' acc accD ∧ Same H1 H' ∧ lcGo (wipeD σD vs) g ft fe (ds.drop (i + 1)) = some ys ∧ accD ++ ys = xs ∧ accD.length ≤ i + 1,
        fun H' hN => ⟨m - 1, by omega, hN⟩, fun x H3 hy => ?_⟩
      obtain ⟨d, hd, s3, rd⟩ := wk.yld i H2 x H3 (.same s2) hlt hy
      have hdi : d = ds[i] := by
        rw [List.getElem?_eq_getElem hlt] at hd
        exact (Option.some.inj hd).symm
      subst hdi
      have rl3 : DRel w K G σD σV H3 := ((rl.grow s1).grow s2).grow s3
      refine ⟨G, wipeD σD vs, _, σ1, rl3.wipe vs, rd, e3, fun σV1 rl4 l4 o4 => ⟨wipe_same l4 o4, ?_⟩⟩
      refine ⟨G, σ1, b, rl4, e4, fun H4 s4 => ?_⟩
      cases b with
      | true =>
        rw [if_pos rfl] at h3 ⊢
        obtain ⟨y, e5, h3⟩ := Option.bind_eq_some_iff.mp h3
        obtain ⟨zs, e6, h3⟩ := Option.bind_eq_some_iff.mp h3
        cases h3
        refine ⟨G, σ1, y, rl4.grow s4, e5, fun z H5 s5 rz => ?_⟩
        have s25 : Same H2 H5 := (s3.trans s4).trans s5
        refine ⟨acc, s25 _ _ h1, ?_, by omega, acc ++ [z], accD ++ [y], zs, upd_same, ?_, fun c o hc => ?_, e6, by rw [List.append_assoc]; exact h4, by rw [List.length_append, List.length_singleton]; omega⟩
        · rw [h2.length]; exact line_lt (by omega)
        · have kk : Kept H5 (upd H5 L (.lst (acc ++ [z]))) := .write (s25 _ _ h1) True.intro
          exact ((h2.mono (.same s25)).append (.cons rz .nil)).mono kk
        · rw [upd_ne (ne_of_none hc hL)]
          exact s25 _ _ (s2 _ _ hc)
      | false =>
        rw [if_neg Bool.false_ne_true] at h3 ⊢
        have s24 : Same H2 H4 := s3.trans s4
        exact ⟨by omega, acc, accD, ys, s24 _ _ h1, h2.mono (.same s24), s2.trans s24, h3, h4, by omega⟩
    · have hie : i = ds.length := by omega
      subst hie
      rw [List.drop_length, lcGo] at h3
      cases h3
      rw [List.append_nil] at h4
      subst h4
      exact .inl ⟨wk.stop H2 (.same s2), q L H2 (s1.trans s2) (s1.free hL) ⟨_, h1, acc, rfl, h2⟩⟩
  · cases e
/-- the parts of a comprehension, in its block -/
structure LcOk (X : Cx) (tg iter elt : Expr) (ifs : List Expr) (scope : Scope) (own : List (Str × Nat)) (fi : DSt → Option (List D)) (g : D → DSt → Option DSt) (ft : DSt → Option Bool) (fe : DSt → Option D) : Prop where
  blk : BlkOk X.N X.env.scope scope own
  it : DI X tg iter fi
  tgt : ∀ (s : Shared) (H : Hp) (C : Addr) (cl : List (Str × Addr)) (fp : List Addr), DGn (X.blk s H scope (compEnvC scope cl C X.env) fp) tg (own.map (·.2)) g
  tst : ∀ (s : Shared) (H : Hp) (C : Addr) (cl : List (Str × Addr)) (fp : List Addr), PTs (X.blk s H scope (compEnvC scope cl C X.env) fp) ifs (canT X.w X.K ft)
  elt : ∀ (s : Shared) (H : Hp) (C : Addr) (cl : List (Str × Addr)) (fp : List Addr), DE (X.blk s H scope (compEnvC scope cl C X.env) fp) elt fe
theorem d_lc {elt tg iter : Expr} {ifs : List Expr} {scope : Scope} {own : List (Str × Nat)} {fi : DSt → Option (List D)} {g : D → DSt → Option DSt} {ft : DSt → Option Bool} {fe : DSt → Option D} (hc : X.calm = true) (hN : X.N.Nodup) (L : LcOk X tg iter elt ifs scope own fi g ft fe)
    (hs : ∀ x, foldedSetIterable iter X.env x = pure x := by intro _; rfl) : DN X (.ListComp elt [⟨tg, iter, ifs, 0⟩] scope pos) (fLc fi g ft fe (own.map (·.2))) := by
  obtain ⟨wi, pi, p⟩ := L.it
  refine ⟨_, pe_lc (te := canE X.w X.K (fun _ H' v d => Rep X.w X.K H' v d) fe) (g := canG X.w X.K (own.map (·.2)) g) (tt := canT X.w X.K ft) hc hN pi L.blk (fun s H C cl fp => can_g (L.tgt s H C cl fp)) L.tst (fun s H C cl fp => can_e (L.elt s H C cl fp)) hs, fun G σD σV H Q m rl e q => ?_⟩
  exact lc_read (fun R ds e1 k => p G σD σV H R ds rl e1 k) rl e fun a H' s n r => q _ H' s ⟨a, rfl, n, r⟩

/-! ### statements -/
inductive Out where
  | nx (σ : DSt) | rt (d : D)
def Acc (w : World) (K : PySem.W.Frag) (G : Hp) (E : Ends) : Out → Prop
  | .nx σ => ∀ σV H, DRel w K G σ σV H → E.nx σV H
  | .rt d => ∀ v H, Same G H → Rep w K H v d → E.rt v H
def SemS (w : World) (K : PySem.W.Frag) (t : TS) (g : DSt → Option Out) : Prop := ∀ (G : Hp) (σD : DSt) (σV : L2.St) (H : Hp) (E : Ends) (o : Out), DRel w K G σD σV H → g σD = some o → Acc w K G E o → t E σV H
def DS (X : Cx) (st : Stmt) (g : DSt → Option Out) : Prop := ∃ t : TS, PS X st t ∧ SemS X.w X.K t g
def DSs (X : Cx) (st : List Stmt) (g : DSt → Option Out) : Prop := ∃ t : TS, PSs X st t ∧ SemS X.w X.K t g
def sNil : DSt → Option Out := fun σ => some (.nx σ)
def sThen (g h : DSt → Option Out) : DSt → Option Out := fun σ => (g σ).bind fun o => match o with
  | .nx σ' => h σ'
  | .rt d => some (.rt d)
theorem ds_nil : DSs X [] sNil := ⟨_, pss_nil, fun G σD σV H E o rl e a => by cases e; exact a σV H rl⟩
theorem ds_cons {st : Stmt} {rest : List Stmt} {g h : DSt → Option Out} (h1 : DS X st g) (h2 : DSs X rest h) : DSs X (st :: rest) (sThen g h) := by
  obtain ⟨t, ps, p⟩ := h1
  obtain ⟨u, pss, p2⟩ := h2
  refine ⟨_, pss_cons ps pss, fun G σD σV H E o rl e a => ?_⟩
  obtain ⟨o1, e1, e⟩ := Option.bind_eq_some_iff.mp e
  refine p G σD σV H _ o1 rl e1 ?_
  cases o1 with
  | nx σ' => exact fun σV' H' rl' => p2 G σ' σV' H' E o rl' e a
  | rt d => cases e; exact fun v H' s r => a v H' s r
theorem ds_one {st : Stmt} {g : DSt → Option Out} (h1 : DS X st g) : DSs X [st] g := by
  obtain ⟨t, ps, p⟩ := h1
  exact ⟨_, pss_one ps, p⟩
/-- a def's own list or dict is locked for good, ahead of a statement -/
def tFz (t : TS) : TS := fun D σ H => t D σ H ∨ ∃ d u, H d = some u ∧ Mut (some u) ∧ ∀ od, t D σ (upd H d (.frz od u))
theorem ps_fz {st : Stmt} {t : TS} (h : PS X st t) : PS X st (tFz t) := by
  refine ⟨fun pins s σ H D I hw => ?_⟩
  rcases hw with hw | ⟨d, u, hd, mu, hw⟩
  · exact h.run pins s σ H D I hw
  · obtain ⟨od, I1⟩ := I.lock hd mu
    exact h.run pins s σ _ D I1 (hw od)
def frzD (i : Nat) (σ : DSt) : DSt := match σ[i]? with
  | some (some (.mu m)) => σ.set i (some (.im m.frz))
  | _ => σ
def sFz (i : Nat) (g : DSt → Option Out) : DSt → Option Out := fun σ => g (frzD i σ)
theorem ds_fz (i : Nat) {st : Stmt} {g : DSt → Option Out} (h : DS X st g) : DS X st (sFz i g) := by
  obtain ⟨t, ps, p⟩ := h
  refine ⟨_, ps_fz ps, fun G σD σV H E o rl e a => ?_⟩
  unfold sFz frzD at e
  split at e
  · rename_i m hm
    obtain ⟨b, hv, g0, u, hb, c⟩ := rl.mu hm
    exact .inr ⟨b, u, hb, c.mut, fun od => p G _ σV _ E o (rl.freeze hm hv hb od) e a⟩
  · exact .inl (p G σD σV H E o rl e a)
def sSet (i : Nat) (f : DSt → Option D) : DSt → Option Out := fun σ => (f σ).map fun d => Out.nx (σ.set i (some (.im d)))
theorem ds_set {i : Nat} {x : Str} {e : Expr} {f : DSt → Option D} {p' : Pos} (hN : X.N.Nodup) (he : DE X e f) (hi : X.N[i]? = some x := by rfl) (hx : Loc X.env.scope x := by first | exact Or.inl rfl | exact Or.inr rfl) (hs : swapsWith e (some (.Name x p')) pos.line X.env = pure false := by rfl)
    (hf : X.fn x = true ∨ X.env.scope.names.lookup x = some .local := by first | exact .inl rfl | exact .inr rfl | assumption) : DS X (.Assign [.Name x p'] e pos) (sSet i f) := by
  obtain ⟨t, pe, p⟩ := he
  refine ⟨_, ps_set hN hi hx pe hs hf, fun G σD σV H E o rl e a => ?_⟩
  obtain ⟨d, e1, rfl⟩ := Option.map_eq_some_iff.mp e
  exact p G σD σV H _ d rl e1 fun v H1 s1 r1 => a _ H1 ((rl.grow s1).setIm r1 i)
def sSetN (i : Nat) (f : DSt → Option MO) : DSt → Option Out := fun σ => (f σ).map fun m => Out.nx (σ.set i (some (.mu m)))
theorem own_ne {w : World} {K : PySem.W.Frag} {G H : Hp} {σD : DSt} {σV : L2.St} {a : Addr} (rl : DRel w K G σD σV H) (ha : H a = none) : ∀ (j : Nat) (n : MO), σD[j]? = some (some (.mu n)) → σV[j]? ≠ some (some (.ref a)) := fun j n e z => by
  obtain ⟨b, hb, _, q⟩ := rl.mu e
  rw [z] at hb
  cases hb
  exact q.some ha
theorem DRel.setNew {w : World} {K : PySem.W.Frag} {G H H1 : Hp} {σD : DSt} {σV : L2.St} {a : Addr} {m : MO} (rl : DRel w K G σD σV H) (s1 : Same H H1) (ha : H a = none) (r : MRep w K H1 a m) (i : Nat) : DRel w K G (σD.set i (some (.mu m))) (σV.set i (some (.ref a))) H1 :=
  (rl.grow s1).setMu r (rl.same.free ha) (own_ne rl ha) i
theorem ds_setN {i : Nat} {x : Str} {e : Expr} {f : DSt → Option MO} {p' : Pos} (hN : X.N.Nodup) (he : DN X e f) (hi : X.N[i]? = some x := by rfl) (hx : Loc X.env.scope x := by first | exact Or.inl rfl | exact Or.inr rfl) (hs : swapsWith e (some (.Name x p')) pos.line X.env = pure false := by rfl)
    (hf : X.fn x = true ∨ X.env.scope.names.lookup x = some .local := by first | exact .inl rfl | exact .inr rfl | assumption) : DS X (.Assign [.Name x p'] e pos) (sSetN i f) := by
  obtain ⟨t, pe, p⟩ := he
  refine ⟨_, ps_set hN hi hx pe hs hf, fun G σD σV H E o rl e a => ?_⟩
  obtain ⟨m, e1, rfl⟩ := Option.map_eq_some_iff.mp e
  exact p G σD σV H _ m rl e1 fun v H1 s1 ⟨b, ev, nb, r1⟩ => by
    subst ev
    exact a _ H1 (rl.setNew s1 nb r1 i)
/-- name = [..] -/
theorem ds_setLc {i : Nat} {y : Str} {py : Pos} {elt tg iter : Expr} {ifs : List Expr} {scope : Scope} {own : List (Str × Nat)} {p2 : Pos} {fi : DSt → Option (List D)} {g : D → DSt → Option DSt} {ft : DSt → Option Bool} {fe : DSt → Option D} (hc : X.calm = true) (hN : X.N.Nodup) (L : LcOk X tg iter elt ifs scope own fi g ft fe)
    (hy : X.N[i]? = some y := by rfl) (hyl : X.env.scope.names.lookup y = some .local := by rfl) (hsw : swapsWith (.ListComp elt [⟨tg, iter, ifs, 0⟩] scope p2) (some (.Name y py)) pos.line X.env = pure true := by exact sw_true rfl rfl rfl (by decide +kernel))
    (hs : ∀ x, foldedSetIterable iter X.env x = pure x := by intro _; rfl) : DS X (.Assign [.Name y py] (.ListComp elt [⟨tg, iter, ifs, 0⟩] scope p2) pos) (sSetN i (fLc fi g ft fe (own.map (·.2)))) := by
  obtain ⟨wi, pi, p⟩ := L.it
  refine ⟨_, ps_setLc (te := canE X.w X.K (fun _ H' v d => Rep X.w X.K H' v d) fe) (g := canG X.w X.K (own.map (·.2)) g) (tt := canT X.w X.K ft) hc hN hy hyl hsw pi L.blk (fun s H C cl fp => can_g (L.tgt s H C cl fp)) L.tst (fun s H C cl fp => can_e (L.elt s H C cl fp)) hs, fun G σD σV H E o rl e a => ?_⟩
  obtain ⟨m, e1, rfl⟩ := Option.map_eq_some_iff.mp e
  refine lc_read (fun R ds e2 k => p G σD σV H R ds rl e2 k) rl e1 fun b H1 s1 nb r1 => ?_
  exact a _ H1 (rl.setNew s1 nb r1 i)
def sDrop (f : DSt → Option D) : DSt → Option Out := fun σ => (f σ).map fun _ => Out.nx σ
theorem ds_expr {e : Expr} {f : DSt → Option D} (he : DE X e f) (hs : swapsWith e none pos.line X.env = pure false := by rfl) : DS X (.Expr e pos) (sDrop f) := by
  obtain ⟨t, pe, p⟩ := he
  refine ⟨_, ps_expr pe hs, fun G σD σV H E o rl e a => ?_⟩
  obtain ⟨d, e1, rfl⟩ := Option.map_eq_some_iff.mp e
  exact p G σD σV H _ d rl e1 fun v H1 s1 r1 => a _ H1 (rl.grow s1)
def sRet (f : DSt → Option D) : DSt → Option Out := fun σ => (f σ).map Out.rt
theorem ds_ret {e : Expr} {f : DSt → Option D} (he : DE X e f) : DS X (.Return (some e) pos) (sRet f) := by
  obtain ⟨t, pe, p⟩ := he
  refine ⟨_, ps_ret pe, fun G σD σV H E o rl e a => ?_⟩
  obtain ⟨d, e1, rfl⟩ := Option.map_eq_some_iff.mp e
  exact p G σD σV H _ d rl e1 fun v H1 s1 r1 => a v H1 (rl.same.trans s1) r1
def sIf (c : DSt → Option Bool) (g h : DSt → Option Out) : DSt → Option Out := fun σ => (c σ).bind fun b => if b = true then g σ else h σ
theorem ds_if {c : Expr} {a b : List Stmt} {k : DSt → Option Bool} {g h : DSt → Option Out} (hc : DT X c k) (ha : DSs X a g) (hb : DSs X b h) : DS X (.If c a b pos) (sIf k g h) := by
  obtain ⟨tc, pc, p0⟩ := hc
  obtain ⟨t, pt, p⟩ := ha
  obtain ⟨u, pu, p2⟩ := hb
  refine ⟨_, ps_if pc pt pu, fun G σD σV H E o rl e ac => ?_⟩
  obtain ⟨x, e1, e⟩ := Option.bind_eq_some_iff.mp e
  refine p0 G σD σV H _ x rl e1 fun H1 s1 => ?_
  cases x with
  | true => exact p G σD σV H1 E o (rl.grow s1) e ac
  | false => exact p2 G σD σV H1 E o (rl.grow s1) e ac
def sNever : DSt → Option Out := fun _ => none
theorem ds_never {st : Stmt} : DS X st sNever := ⟨_, ps_never, fun G σD σV H E o rl e a => by cases e⟩
theorem dss_never {sts : List Stmt} : DSs X sts sNever := ⟨_, pss_never, fun G σD σV H E o rl e a => by cases e⟩
/-! while -/
def wGo (c : DSt → Option Bool) (g : DSt → Option Out) : Nat → DSt → Option Out
  | 0, _ => none
  | n + 1, σ => (c σ).bind fun b => if b = true then (g σ).bind fun o => match o with
    | .nx σ' => wGo c g n σ'
    | .rt d => some (.rt d)
    else some (.nx σ)
theorem ds_while (n : Nat) {c : Expr} {body : List Stmt} {k : DSt → Option Bool} {g : DSt → Option Out} (hc : DT X c k) (hb : DSs X body g) (hp : PassesOwn (model X.prog X.w) X.A X.env X.xe := by exact PassesOwn.never) : DS X (.While c body [] pos) (wGo k g n) := by
  obtain ⟨tc, pc, p0⟩ := hc
  obtain ⟨t, pt, p⟩ := hb
  refine ⟨_, ps_while hp pc pt, fun G σD σV H E o rl e ac => ?_⟩
  refine ⟨fun m σV H => ∃ σD, DRel X.w X.K G σD σV H ∧ wGo k g m σD = some o, ⟨n, σD, rl, e⟩, ?_⟩
  rintro m σV H ⟨σD, rl, e⟩
  cases m with
  | zero => cases e
  | succ m =>
    obtain ⟨b, e1, e⟩ := Option.bind_eq_some_iff.mp e
    refine p0 G σD σV H _ b rl e1 fun H1 s1 => ?_
    cases b with
    | true =>
      rw [if_pos rfl] at e ⊢
      obtain ⟨o1, e2, e⟩ := Option.bind_eq_some_iff.mp e
      refine ⟨fun σV H => ∃ σD, DRel X.w X.K G σD σV H ∧ wGo k g m σD = some o, fun σV' H' ⟨σD', rl', e'⟩ => ⟨m, Nat.lt_succ_self m, σD', rl', e'⟩, ?_⟩
      refine p G σD σV H1 _ o1 (rl.grow s1) e2 ?_
      cases o1 with
      | nx σ' => exact fun σV' H' rl' => ⟨σ', rl', e⟩
      | rt d => cases e; exact fun v H' s r => ac v H' s r
    | false =>
      rw [if_neg Bool.false_ne_true] at e ⊢
      cases e
      exact ac σV H1 (rl.grow s1)
/-! targets in general -/
def DG (X : Cx) (tg : Expr) (g : D → DSt → Option DSt) : Prop :=
  ∃ t : TG, PG X tg t ∧ ∀ (G : Hp) (σD : DSt) (σV : L2.St) (H : Hp) (v : V) (d : D) (Q : L2.St → Hp → Prop) (σD' : DSt), DRel X.w X.K G σD σV H → Rep X.w X.K H v d → g d σD = some σD' → (∀ σV' H', DRel X.w X.K G σD' σV' H' → Kept H H' → Q σV' H') → t v σV H Q
theorem dgn_dg {tg : Expr} {vs : List Nat} {g : D → DSt → Option DSt} (h : DGn X tg vs g) : DG X tg g := by
  obtain ⟨t, pg, p⟩ := h
  exact ⟨t, pg, fun G σD σV H v d Q σD' rl rp e q => p G σD σV H v d Q σD' rl rp e fun σV' rl' _ _ => q σV' H rl' (Kept.refl H)⟩
/-! for -/
def forGo (g : D → DSt → Option DSt) (b : DSt → Option Out) : List D → DSt → Option Out
  | [], σ => some (.nx σ)
  | d :: ds, σ => (g d σ).bind fun σ1 => (b σ1).bind fun o => match o with
    | .nx σ' => forGo g b ds σ'
    | .rt d => some (.rt d)
def sFor (fi : DSt → Option (List D)) (g : D → DSt → Option DSt) (b : DSt → Option Out) : DSt → Option Out := fun σ => (fi σ).bind fun ds => forGo g b ds σ
theorem ds_for {iter tg : Expr} {body : List Stmt} {fi : DSt → Option (List D)} {g : D → DSt → Option DSt} {b : DSt → Option Out} (hc : X.calm = true) (hi : DI X tg iter fi) (hg : DG X tg g) (hb : DSs X body b) (hp : PassesOwn (model X.prog X.w) X.A X.env X.xe := by exact PassesOwn.never)
    (hs : ∀ x, foldedSetIterable iter X.env x = pure x := by intro _; rfl) : DS X (.For tg iter body [] pos) (sFor fi g b) := by
  obtain ⟨wi, pi, p0⟩ := hi
  obtain ⟨tg', pg, p1⟩ := hg
  obtain ⟨t, pt, p⟩ := hb
  refine ⟨_, ps_for hp hc pi pg pt hs, fun G σD σV H E o rl e ac => ?_⟩
  obtain ⟨ds, e1, e⟩ := Option.bind_eq_some_iff.mp e
  refine p0 G σD σV H _ ds rl e1 fun J H1 s1 wk => ?_
  have rl1 := rl.grow s1
  have rb := rl1.rebase
  have kb := rl1.kept
  have sb := rl1.sub
  refine ⟨fun i m σV' H => i + m = ds.length ∧ ∃ σD', DRel X.w X.K (base σD σV H1) σD' σV' H ∧ forGo g b (ds.drop i) σD' = some o, ⟨ds.length, by omega, σD, rb, by rw [List.drop_zero]; exact e⟩, ?_⟩
  rintro i m σV2 H2 ⟨hi, σ2, rl2, e2⟩
  have k2 : Kept H1 H2 := kb.trans (.same rl2.same)
  by_cases hlt : i < ds.length
  · have hdr : ds.drop i = ds[i] :: ds.drop (i + 1) := List.drop_eq_getElem_cons hlt
    rw [hdr, forGo] at e2
    obtain ⟨σ3, e3, e2⟩ := Option.bind_eq_some_iff.mp e2
    obtain ⟨o1, e4, e2⟩ := Option.bind_eq_some_iff.mp e2
    refine .inr ⟨wk.go i H2 k2 hlt, fun σV' H => i + 1 + (m - 1) = ds.length ∧ ∃ σD', DRel X.w X.K (base σD σV H1) σD' σV' H ∧ forGo g b (ds.drop (i + 1)) σD' = some o, fun σ' H' hN => ⟨m - 1, by omega, hN⟩, fun x H3 hy => ?_⟩
    obtain ⟨d, hd, s3, rd⟩ := wk.yld i H2 x H3 k2 hlt hy
    have hdi : d = ds[i] := by
      rw [List.getElem?_eq_getElem hlt] at hd
      exact (Option.some.inj hd).symm
    subst hdi
    refine p1 _ σ2 σV2 H3 x _ _ σ3 (rl2.grow s3) rd e3 fun σV4 H4 rl4 _ => ?_
    refine p _ σ3 σV4 H4 _ o1 rl4 e4 ?_
    cases o1 with
    | nx σ' => exact fun σV' H' rl' => ⟨by omega, σ', rl', e2⟩
    | rt d => cases e2; exact fun v H' s r => ac v H' (sb.trans s) r
  · have hie : i = ds.length := by omega
    subst hie
    rw [List.drop_length, forGo] at e2
    cases e2
    exact .inl ⟨wk.stop H2 k2, ac σV2 H2 (rl2.unbase sb)⟩
end
end Deep
set_option maxRecDepth 100000
set_option maxHeartbeats 4000000
namespace Deep
open PySem PySem.Spec PyProof.Rows L2

section
variable {X : Cx} {pos : Pos}
/-! ### several new things at once -/
def VRs (w : World) (K : PySem.W.Frag) (H H' : Hp) : List V → List DV → Prop
  | [], [] => True
  | v :: vs, .im d :: dvs => Rep w K H' v d ∧ VRs w K H H' vs dvs
  | v :: vs, .mu m :: dvs => (∃ a, v = .ref a ∧ H a = none ∧ MRep w K H' a m ∧ ∀ (j : Nat) (n : MO), dvs[j]? = some (.mu n) → vs[j]? ≠ some (.ref a)) ∧ VRs w K H H' vs dvs
  | _, _ => False
/-- the rest was new behind H1: so it was behind H -/
theorem VRs.from {w : World} {K : PySem.W.Frag} {H H1 H' : Hp} (s : Same H H1) : ∀ {vs : List V} {dvs : List DV}, VRs w K H1 H' vs dvs → VRs w K H H' vs dvs
  | [], [], _ => trivial
  | v :: vs, .im d :: dvs, h => ⟨h.1, VRs.from s h.2⟩
  | v :: vs, .mu m :: dvs, h => by
    obtain ⟨⟨a, e, n, r, k⟩, t⟩ := h
    exact ⟨⟨a, e, s.free n, r, k⟩, VRs.from s t⟩
  | [], _ :: _, h => h.elim
  | _ :: _, [], h => h.elim
theorem VRs.new {w : World} {K : PySem.W.Frag} {H H' : Hp} : ∀ {vs : List V} {dvs : List DV} {j : Nat} {n : MO} {a : Addr}, VRs w K H H' vs dvs → dvs[j]? = some (.mu n) → vs[j]? = some (.ref a) → H a = none
  | [], [], j, n, a, _, h, _ => by simp at h
  | v :: vs, .im d :: dvs, 0, n, a, _, h, _ => by simp at h
  | v :: vs, .im d :: dvs, j + 1, n, a, h, h1, h2 => VRs.new (j := j) h.2 (by simpa using h1) (by simpa using h2)
  | v :: vs, .mu m :: dvs, 0, n, a, h, h1, h2 => by
    obtain ⟨⟨b, e, nb, _⟩, _⟩ := h
    subst e
    have : b = a := by simpa using h2
    rw [← this]; exact nb
  | v :: vs, .mu m :: dvs, j + 1, n, a, h, h1, h2 => VRs.new (j := j) h.2 (by simpa using h1) (by simpa using h2)
  | [], _ :: _, _, _, _, h, _, _ => h.elim
  | _ :: _, [], _, _, _, h, _, _ => h.elim
def DVs (X : Cx) (es : List Expr) (f : DSt → Option (List DV)) : Prop :=
  ∃ t : TA, PA X es t ∧ ∀ (G : Hp) (σD : DSt) (σV : L2.St) (H : Hp) (Q : List V → Hp → Prop) (dvs : List DV), DRel X.w X.K G σD σV H → f σD = some dvs → (∀ vs H', Same H H' → VRs X.w X.K H H' vs dvs → Q vs H') → t σV H Q
def fIm (f : DSt → Option D) : DSt → Option DV := fun σ => (f σ).map DV.im
def fMu (f : DSt → Option MO) : DSt → Option DV := fun σ => (f σ).map DV.mu
theorem dvs_nil : DVs X [] fNil := ⟨_, pa_nil, fun G σD σV H Q as r e q => by cases e; exact q [] H (Same.refl H) trivial⟩
theorem dvs_im {e : Expr} {es : List Expr} {f : DSt → Option D} {g : DSt → Option (List DV)} (he : DE X e f) (hr : DVs X es g) (hs : starEach (e :: es) X.env = (false, eval e X.env) :: starEach es X.env := by rfl) : DVs X (e :: es) (fCons (fIm f) g) := by
  obtain ⟨t, pe, p⟩ := he
  obtain ⟨u, pa, q⟩ := hr
  refine ⟨_, pa_cons pe pa hs, fun G σD σV H Q as r e k => ?_⟩
  obtain ⟨a, e1, e⟩ := Option.bind_eq_some_iff.mp e
  obtain ⟨as', e2, e⟩ := Option.bind_eq_some_iff.mp e
  obtain ⟨d, e3, rfl⟩ := Option.map_eq_some_iff.mp e1
  cases e
  refine p G σD σV H _ d r e3 fun v H1 s1 r1 => ?_
  exact q G σD σV H1 _ as' (r.grow s1) e2 fun vs H2 s2 r2 => k _ _ (s1.trans s2) ⟨Rep.mono (.same s2) r1, r2.from s1⟩
theorem dvs_mu {e : Expr} {es : List Expr} {f : DSt → Option MO} {g : DSt → Option (List DV)} (he : DN X e f) (hr : DVs X es g) (hs : starEach (e :: es) X.env = (false, eval e X.env) :: starEach es X.env := by rfl) : DVs X (e :: es) (fCons (fMu f) g) := by
  obtain ⟨t, pe, p⟩ := he
  obtain ⟨u, pa, q⟩ := hr
  refine ⟨_, pa_cons pe pa hs, fun G σD σV H Q as r e k => ?_⟩
  obtain ⟨a, e1, e⟩ := Option.bind_eq_some_iff.mp e
  obtain ⟨as', e2, e⟩ := Option.bind_eq_some_iff.mp e
  obtain ⟨d, e0, rfl⟩ := Option.map_eq_some_iff.mp e1
  cases e
  refine p G σD σV H _ d r e0 fun v H1 s1 ⟨b, ev, nb, r1⟩ => ?_
  refine q G σD σV H1 _ as' (r.grow s1) e2 fun vs H2 s2 r2 => k _ _ (s1.trans s2) ⟨⟨b, ev, nb, ?_, fun j n e3 e4 => ?_⟩, r2.from s1⟩
  · obtain ⟨o, ho, c⟩ := r1
    exact ⟨o, s2 _ _ ho, c.mono (.same s2)⟩
  · exact r1.some (r2.new e3 e4)
/-- names given values, one after another -/
def setsD : DSt → List Nat → List DV → DSt
  | σ, i :: is, d :: ds => setsD (σ.set i (some d)) is ds
  | σ, _, _ => σ
def setsV : L2.St → List Nat → List V → L2.St
  | σ, i :: is, v :: vs => setsV (σ.set i (some v)) is vs
  | σ, _, _ => σ
theorem sets_rel {w : World} {K : PySem.W.Frag} {G H0 H : Hp} : ∀ {is : List Nat} {vs : List V} {dvs : List DV} {σD : DSt} {σV : L2.St}, DRel w K G σD σV H → Same G H0 → VRs w K H0 H vs dvs →
    (∀ (k : Nat) (m : MO) (a : Addr), dvs[k]? = some (.mu m) → vs[k]? = some (.ref a) → ∀ (j : Nat) (n : MO), σD[j]? = some (some (.mu n)) → σV[j]? ≠ some (some (.ref a))) → DRel w K G (setsD σD is dvs) (setsV σV is vs) H
  | [], _, _, _, _, r, _, _, _ => by unfold setsD setsV; exact r
  | i :: is, [], [], _, _, r, _, _, _ => by unfold setsD setsV; exact r
  | i :: is, v :: vs, .im d :: dvs, σD, σV, r, g, h, ne => by
    rw [setsD, setsV]
    refine sets_rel (r.setIm h.1 i) g h.2 fun k m a e1 e2 j n e3 => ?_
    have hj : j ≠ i := fun z => by
      subst z
      have hl : j < σD.length := by have := (List.getElem?_eq_some_iff.mp e3).1; rwa [List.length_set] at this
      rw [List.getElem?_set_self hl] at e3; cases e3
    rw [List.getElem?_set_ne (Ne.symm hj)] at e3 ⊢
    exact ne (k + 1) m a (by simpa using e1) (by simpa using e2) j n e3
  | i :: is, v :: vs, .mu m0 :: dvs, σD, σV, r, g, h, ne => by
    rw [setsD, setsV]
    obtain ⟨⟨a0, e, na, ra, ka⟩, t⟩ := h
    subst e
    refine sets_rel (r.setMu ra (g.free na) (ne 0 m0 a0 rfl rfl) i) g t fun k m a e1 e2 j n e3 => ?_
    by_cases hj : j = i
    · subst hj
      have hl : j < σD.length := by have := (List.getElem?_eq_some_iff.mp e3).1; rwa [List.length_set] at this
      rw [List.getElem?_set_self (by rw [← r.len]; exact hl)]
      intro z
      have : a0 = a := by simpa using z
      subst this
      exact ka k m e1 e2
    · rw [List.getElem?_set_ne (Ne.symm hj)] at e3 ⊢
      exact ne (k + 1) m a (by simpa using e1) (by simpa using e2) j n e3
  | _ :: _, [], _ :: _, _, _, _, _, h, _ => h.elim
  | _ :: _, _ :: _, [], _, _, _, _, h, _ => h.elim
theorem sets_new {w : World} {K : PySem.W.Frag} {G H H1 : Hp} {is : List Nat} {vs : List V} {dvs : List DV} {σD : DSt} {σV : L2.St} (r : DRel w K G σD σV H) (s1 : Same H H1) (h : VRs w K H H1 vs dvs) : DRel w K G (setsD σD is dvs) (setsV σV is vs) H1 :=
  sets_rel (r.grow s1) r.same h fun k m a e1 e2 => own_ne r (h.new e1 e2)
theorem VRs.len {w : World} {K : PySem.W.Frag} {H H' : Hp} : ∀ {vs : List V} {dvs : List DV}, VRs w K H H' vs dvs → vs.length = dvs.length
  | [], [], _ => rfl
  | v :: vs, .im d :: dvs, h => by rw [List.length_cons, List.length_cons, VRs.len h.2]
  | v :: vs, .mu m :: dvs, h => by rw [List.length_cons, List.length_cons, VRs.len h.2]
  | [], _ :: _, h => h.elim
  | _ :: _, [], h => h.elim
def sPar (is : List Nat) (f : DSt → Option (List DV)) : DSt → Option Out := fun σ => (f σ).bind fun dvs => if dvs.length = is.length then some (.nx (setsD σ is dvs)) else none
theorem ds_par2 (i j : Nat) {x y : Str} {a b : Expr} {f : DSt → Option (List DV)} {px py pt : Pos} {kt k2 pt2} (hc : X.calm = true) (hN : X.N.Nodup) (ha : DVs X [a, b] f) (hi : X.N[i]? = some x := by rfl) (hj : X.N[j]? = some y := by rfl) (hij : i ≠ j := by decide)
    (hx : X.env.scope.names.lookup x = some .local := by rfl) (hy : X.env.scope.names.lookup y = some .local := by rfl)
    (hw : swappedStores [.Tuple [.Name x px, .Name y py] kt pt] (.Tuple [a, b] k2 pt2) X.env = pure (some [x, y]) := by rfl)
    (hs : swapsWithSole [.Tuple [.Name x px, .Name y py] kt pt] (.Tuple [a, b] k2 pt2) pos.line X.env = pure false := by rfl) :
    DS X (.Assign [.Tuple [.Name x px, .Name y py] kt pt] (.Tuple [a, b] k2 pt2) pos) (sPar [i, j] f) := by
  obtain ⟨t, pa, p⟩ := ha
  refine ⟨_, ps_par hc hN hi hj hij hx hy pa hw hs, fun G σD σV H E o rl e ac => ?_⟩
  obtain ⟨dvs, e1, e⟩ := Option.bind_eq_some_iff.mp e
  split at e
  · rename_i hl
    cases e
    refine p G σD σV H _ dvs rl e1 fun vs H1 s1 r1 => ?_
    have hv : vs.length = 2 := r1.len.trans hl
    match vs, hv with
    | [u, v], _ => exact ⟨u, v, rfl, ac _ H1 (sets_new (is := [i, j]) rl s1 r1)⟩
  · cases e
theorem ds_par3 (i j l : Nat) {x y z : Str} {a b c : Expr} {f : DSt → Option (List DV)} {px py pz pt : Pos} {kt k2 pt2} (hc : X.calm = true) (hN : X.N.Nodup) (ha : DVs X [a, b, c] f) (hi : X.N[i]? = some x := by rfl) (hj : X.N[j]? = some y := by rfl) (hl : X.N[l]? = some z := by rfl)
    (hij : i ≠ j := by decide) (hil : i ≠ l := by decide) (hjl : j ≠ l := by decide)
    (hx : X.env.scope.names.lookup x = some .local := by rfl) (hy : X.env.scope.names.lookup y = some .local := by rfl) (hz : X.env.scope.names.lookup z = some .local := by rfl)
    (hw : swappedStores [.Tuple [.Name x px, .Name y py, .Name z pz] kt pt] (.Tuple [a, b, c] k2 pt2) X.env = pure (some [x, y, z]) := by rfl)
    (hs : swapsWithSole [.Tuple [.Name x px, .Name y py, .Name z pz] kt pt] (.Tuple [a, b, c] k2 pt2) pos.line X.env = pure false := by rfl) :
    DS X (.Assign [.Tuple [.Name x px, .Name y py, .Name z pz] kt pt] (.Tuple [a, b, c] k2 pt2) pos) (sPar [i, j, l] f) := by
  obtain ⟨t, pa, p⟩ := ha
  refine ⟨_, ps_par3 hc hN hi hj hl hij hil hjl hx hy hz pa hw hs, fun G σD σV H E o rl e ac => ?_⟩
  obtain ⟨dvs, e1, e⟩ := Option.bind_eq_some_iff.mp e
  split at e
  · rename_i hl
    cases e
    refine p G σD σV H _ dvs rl e1 fun vs H1 s1 r1 => ?_
    have hv : vs.length = 3 := r1.len.trans hl
    match vs, hv with
    | [u, v, w'], _ => exact ⟨u, v, w', rfl, ac _ H1 (sets_new (is := [i, j, l]) rl s1 r1)⟩
  · cases e
/-- a, b, c, d = x, y, z, u: a tuple is made and taken apart -/
theorem VRs.mono {w : World} {K : PySem.W.Frag} {H H1 H2 : Hp} {p : Addr} {o : HO} (hp : H1 p = none) : ∀ {vs : List V} {dvs : List DV}, VRs w K H H1 vs dvs → VRs w K H (upd H1 p o) vs dvs
  | [], [], _ => trivial
  | v :: vs, .im d :: dvs, h => ⟨Rep.mono (.new hp) h.1, VRs.mono (H2 := H2) hp h.2⟩
  | v :: vs, .mu m :: dvs, h => by
    obtain ⟨⟨a, e, n, r, k⟩, t⟩ := h
    exact ⟨⟨a, e, n, r.mono (.new hp) (upd_ne fun z => r.some (z ▸ hp)), k⟩, VRs.mono (H2 := H2) hp t⟩
  | [], _ :: _, h => h.elim
  | _ :: _, [], h => h.elim
theorem ds_par4 (i j l n : Nat) {x y z q : Str} {a b c d : Expr} {f : DSt → Option (List DV)} {px py pz pq pt : Pos} {kt k2 pt2} (hc : X.calm = true) (hN : X.N.Nodup) (ha : DVs X [a, b, c, d] f) (hi : X.N[i]? = some x := by rfl) (hj : X.N[j]? = some y := by rfl) (hl : X.N[l]? = some z := by rfl) (hn : X.N[n]? = some q := by rfl)
    (hx : X.env.scope.names.lookup x = some .local := by rfl) (hy : X.env.scope.names.lookup y = some .local := by rfl) (hz : X.env.scope.names.lookup z = some .local := by rfl) (hq : X.env.scope.names.lookup q = some .local := by rfl)
    (hs : swapsWithSole [.Tuple [.Name x px, .Name y py, .Name z pz, .Name q pq] kt pt] (.Tuple [a, b, c, d] k2 pt2) pos.line X.env = pure false := by rfl) (hw : swappedStores [.Tuple [.Name x px, .Name y py, .Name z pz, .Name q pq] kt pt] (.Tuple [a, b, c, d] k2 pt2) X.env = pure none := by rfl)
    (h1 : (assignEach [.Tuple [.Name x px, .Name y py, .Name z pz, .Name q pq] kt pt] X.env).map (·.2) = [assign (.Tuple [.Name x px, .Name y py, .Name z pz, .Name q pq] kt pt) X.env] := by rfl) :
    DS X (.Assign [.Tuple [.Name x px, .Name y py, .Name z pz, .Name q pq] kt pt] (.Tuple [a, b, c, d] k2 pt2) pos) (sPar [i, j, l, n] f) := by
  obtain ⟨t, pa, p⟩ := ha
  refine ⟨_, ps_asg (pe_tup pa) (pg_tup hc (pgs_cons (pg_name hN hi (.inl hx) (.inr hx)) (pgs_cons (pg_name hN hj (.inl hy) (.inr hy)) (pgs_cons (pg_name hN hl (.inl hz) (.inr hz)) (pgs_cons (pg_name hN hn (.inl hq) (.inr hq)) pgs_nil))))) hs hw h1, fun G σD σV H E o rl e ac => ?_⟩
  obtain ⟨dvs, e1, e⟩ := Option.bind_eq_some_iff.mp e
  split at e
  · rename_i hl
    cases e
    refine p G σD σV H _ dvs rl e1 fun vs H1 s1 r1 => ?_
    have hv : vs.length = 4 := r1.len.trans hl
    match vs, hv with
    | [u1, u2, u3, u4], _ =>
      refine ⟨show (4 : Nat) ≤ sizeLine by rw [sizeLine_eq]; decide, fun T hT => ⟨T, _, rfl, .of upd_same, rfl, u1, _, rfl, u2, _, rfl, u3, _, rfl, u4, _, rfl, rfl, ?_⟩⟩
      exact ac _ _ (sets_new (is := [i, j, l, n]) rl (s1.trans (upd_same_of hT)) (r1.mono (H2 := H1) hT))
  · cases e
/-- a, b = e: e a tuple -/
def sAsg (f : DSt → Option D) (g : D → DSt → Option DSt) : DSt → Option Out := fun σ => (f σ).bind fun d => (g d σ).map Out.nx
theorem ds_asg {tg e : Expr} {f : DSt → Option D} {g : D → DSt → Option DSt} (he : DE X e f) (hg : DG X tg g) (hs : swapsWithSole [tg] e pos.line X.env = pure false := by rfl) (hw : swappedStores [tg] e X.env = pure none := by rfl)
    (h1 : (assignEach [tg] X.env).map (·.2) = [assign tg X.env] := by rfl) : DS X (.Assign [tg] e pos) (sAsg f g) := by
  obtain ⟨t, pe, p⟩ := he
  obtain ⟨u, pg, p2⟩ := hg
  refine ⟨_, ps_asg pe pg hs hw h1, fun G σD σV H E o rl e ac => ?_⟩
  obtain ⟨d, e1, e⟩ := Option.bind_eq_some_iff.mp e
  obtain ⟨σ', e2, rfl⟩ := Option.map_eq_some_iff.mp e
  exact p G σD σV H _ d rl e1 fun v H1 s1 r1 => p2 G σD σV H1 v d _ σ' (rl.grow s1) r1 e2 fun σV' H' rl' _ => ac σV' H' rl'

/-! ### d[k] = v -/
def rSetN (X : Cx) : V → V → V → Hp → (Hp → Prop) → Prop := fun o i v H Q => ∃ (a : Addr) (ents : List Ent) (dk : D) (k : NestedKey) (b : Addr), o = .ref a ∧ H a = some (dO X.w a ents) ∧ Reps X.w X.K H (ents.map fun e => V.ref e.2.1) (kds (ents.map (·.1))) ∧ (∀ k ∈ ents.map (·.1), k.depth ≤ 8) ∧
  RdR X.w X.K H i dk ∧ keyOf dk = some k ∧ i = .ref b ∧ ents.length < sizeLine ∧ Q (upd H a (dO X.w a (putT ents k b v)))
theorem set_N (hu : X.A.units + 64 < cLine) : PSet X (rSetN X) := by
  intro pins s σ H o i v ov iv u Q I ro ri rv h
  obtain ⟨a, ents, dk, k, b, rfl, hd, kr, dp, r1, hk, rfl, hl, q⟩ := h
  cases ro
  obtain ⟨b', e1, e2, rb, dpk, ki⟩ := key_is I r1 hk ri
  cases e1
  subst e2
  exact n_setItem hu I hd kr dp ki rv hl fun s' I' => ⟨_, I', q⟩
def rSetK : V → V → V → Hp → (Hp → Prop) → Prop := fun o i v H Q => ∃ (a : Addr) (kvs : List (Key × V)) (k : Key), o = .ref a ∧ H a = some (.dK kvs) ∧ i = kV k ∧ kvs.length < sizeLine ∧ Q (upd H a (.dK (putK kvs k v)))
theorem set_K (hu : X.A.units + 64 < cLine) : PSet X rSetK := by
  intro pins s σ H o i v ov iv u Q I ro ri rv h
  obtain ⟨a, kvs, k, rfl, hd, rfl, hl, q⟩ := h
  cases ro
  exact d_setItem (by omega) I (.inl ⟨kvs, k, hd, rfl, hl, rfl⟩) ri rv fun s' I' => ⟨_, I', q⟩
theorem set_or {r r' : V → V → V → Hp → (Hp → Prop) → Prop} (h : PSet X r) (h' : PSet X r') : PSet X (fun o i v H Q => r o i v H Q ∨ r' o i v H Q) := by
  intro pins s σ H o i v ov iv u Q I ro ri rv q
  rcases q with q | q
  · exact h pins s σ H o i v ov iv u Q I ro ri rv q
  · exact h' pins s σ H o i v ov iv u Q I ro ri rv q
theorem ps_putS {o i value : Expr} {to ti tv : TE} {r : V → V → V → Hp → (Hp → Prop) → Prop} {p' : Pos} (hr : PSet X r) (ho : PE X o to) (hi : PE X i ti) (hv : PE X value tv) (hs : swapsWith value (some (.Subscript o i p')) pos.line X.env = pure false) :
    PS X (.Assign [.Subscript o i p'] value pos) (fun D σ H => tv σ H fun v H1 => to σ H1 fun x H2 => ti σ H2 fun y H3 => r x y v H3 fun H4 => D.nx σ H4) := by
  refine ⟨fun pins s σ H D I h => ?_⟩
  refine wpAny_Assign_Subscript (thn (hv.run pins s σ H _ I h) fun r0 s1 ⟨v, H1, I1, rv, q1⟩ => thn (ho.run pins s1 σ H1 _ I1 q1) fun u s2 ⟨x, H2, I2, rx, q2⟩ => thn (hi.run pins s2 σ H2 _ I2 q2) fun iv s3 ⟨y, H3, I3, ry, q3⟩ => ?_) hs
  exact thn (hr pins s3 σ H3 x y v u iv r0 _ I3 rx ry rv q3) fun _ s4 ⟨H4, I4, q4⟩ => ⟨σ, H4, I4, q4⟩
/-- the state behind o[k] = d, o at the place i -/
def putAtD (i : Nat) (kx d : D) (σ : DSt) : Option DSt := match σ[i]? with
  | some (some (.mu (.dic es))) => (keyOf kx).bind fun k => if es.length < 100000 then some (σ.set i (some (.mu (.dic (putE es k d))))) else none
  | some (some (.mu (.dicK es))) => (keyK kx).bind fun k => if es.length < 100000 then some (σ.set i (some (.mu (.dicK (putM es k d))))) else none
  | _ => none
theorem put_at {G : Hp} {σD σD' : DSt} {σV : L2.St} {H : Hp} {i : Nat} {kx d : D} {v y : V} {Q : Hp → Prop} (rl : DRel X.w X.K G σD σV H) (ry : RdR X.w X.K H y kx) (rv : Rep X.w X.K H v d) (e : putAtD i kx d σD = some σD') (q : ∀ H', DRel X.w X.K G σD' σV H' → Kept H H' → Q H') :
    ∃ a, σV[i]? = some (some (.ref a)) ∧ (rSetN X (.ref a) y v H Q ∨ rSetK (.ref a) y v H Q) := by
  unfold putAtD at e
  split at e
  · rename_i es he
    obtain ⟨k, e1, e⟩ := Option.bind_eq_some_iff.mp e
    split at e
    · rename_i hl
      cases e
      obtain ⟨a, hv, g, o, ho, ents, rfl, ek, kr, vr, dp⟩ := rl.mu he
      obtain ⟨⟨xs, hx⟩, e4, dpk⟩ := keyOf_tup e1
      subst hx
      obtain ⟨b, us, rfl, hs, rp⟩ := ry.tup
      have hlen : ents.length = es.length := by have := congrArg List.length ek; rwa [List.length_map, List.length_map] at this
      have mu : Mut (some (dO X.w a ents)) := True.intro
      refine ⟨a, hv, .inl ⟨a, ents, _, k, b, rfl, ho, by rw [ek]; exact kr, by rw [ek]; exact dp, .inl (.tup hs rp), e1, rfl, line_lt (by omega), q _ ?_ (.write ho mu)⟩⟩
      refine rl.write he hv ho mu fun H' kk => ⟨_, rfl, putT_keys k b v d ents es ek, ?_, ?_, ?_⟩
      · have h1 := putT_refs k b v (H := H') (w := X.w) (K := X.K) (by rw [kd_of e4]; exact Rep.mono kk (.tup hs rp)) ents (by rw [ek]; exact kr.mono kk)
        rw [putT_keys k b v d ents es ek] at h1
        exact h1
      · exact putT_vals k b v d (Rep.mono kk rv) ents es ek (vr.mono kk)
      · rw [← putT_keys k b v d ents es ek]
        exact putT_depth dpk ents (by rw [ek]; exact dp)
    · cases e
  · rename_i es he
    obtain ⟨k, e1, e⟩ := Option.bind_eq_some_iff.mp e
    split at e
    · rename_i hl
      cases e
      obtain ⟨a, hv, g, o, ho, kvs, rfl, ek, vr⟩ := rl.mu he
      have hlen : kvs.length = es.length := by have := congrArg List.length ek; rwa [List.length_map, List.length_map] at this
      have mu : Mut (some (.dK kvs)) := True.intro
      refine ⟨a, hv, .inr ⟨a, kvs, k, rfl, ho, keyK_v ry e1, line_lt (by omega), q _ ?_ (.write ho mu)⟩⟩
      refine rl.write he hv ho mu fun H' kk => ?_
      obtain ⟨i1, i2⟩ := putK_M k ek (vr.mono kk) (Rep.mono kk rv)
      exact ⟨_, rfl, i1, i2⟩
    · cases e
  · cases e
theorem putAt_own {i : Nat} {kx d : D} {σ σ' : DSt} (e : putAtD i kx d σ = some σ') : ∃ m, σ[i]? = some (some (.mu m)) := by
  unfold putAtD at e
  split at e
  · rename_i es he
    exact ⟨_, he⟩
  · rename_i es he
    exact ⟨_, he⟩
  · cases e
def sPut (i : Nat) (fk fv : DSt → Option D) : DSt → Option Out := fun σ => (fv σ).bind fun d => (fk σ).bind fun kx => (putAtD i kx d σ).map Out.nx
theorem ds_put (i : Nat) {x : Str} {ke ve : Expr} {p1 p' : Pos} {fk fv : DSt → Option D} (hu : X.A.units + 64 < cLine) (hk : DR X ke fk) (hv : DE X ve fv) (hi : X.N[i]? = some x := by rfl) (hx : Vis X.env.scope x := by first | exact Or.inl rfl | exact Or.inr (Or.inl rfl) | exact Or.inr (Or.inr rfl))
    (hs : swapsWith ve (some (.Subscript (.Name x p1) ke p')) pos.line X.env = pure false := by rfl) (hd : (x == ("__debug__" : Str)) = false := by decide) (hcd : (x == ("__classdict__" : Str)) = false := by decide) :
    DS X (.Assign [.Subscript (.Name x p1) ke p'] ve pos) (sPut i fk fv) := by
  obtain ⟨t, pe, p⟩ := hk
  obtain ⟨u, pe2, p2⟩ := hv
  refine ⟨_, ps_putS (set_or (set_N hu) (set_K hu)) (pe_var hi hx hd hcd) pe pe2 hs, fun G σD σV H E o rl e ac => ?_⟩
  obtain ⟨d, e1, e⟩ := Option.bind_eq_some_iff.mp e
  obtain ⟨kx, e2, e⟩ := Option.bind_eq_some_iff.mp e
  obtain ⟨σ', e3, rfl⟩ := Option.map_eq_some_iff.mp e
  refine p2 G σD σV H _ d rl e1 fun v H1 s1 r1 => ?_
  have hz : ∃ a, σV[i]? = some (some (V.ref a)) := by
    obtain ⟨m, hm⟩ := putAt_own e3
    obtain ⟨a, hv, _⟩ := rl.mu hm
    exact ⟨a, hv⟩
  obtain ⟨a, hv⟩ := hz
  refine ⟨_, hv, p G σD σV H1 _ kx (rl.grow s1) e2 fun y H2 s2 r2 => ?_⟩
  obtain ⟨a', hv', q⟩ := put_at ((rl.grow s1).grow s2) r2 (Rep.mono (.same s2) r1) e3 (Q := fun H4 => E.nx σV H4) (fun H' rl' _ => ac σV H' rl')
  rw [hv] at hv'
  cases hv'
  exact q
/-- a target o[k], o at the place i -/
theorem dg_sub (i : Nat) {x : Str} {ke : Expr} {p1 : Pos} {fk : DSt → Option D} (hu : X.A.units + 64 < cLine) (hk : DR X ke fk) (hi : X.N[i]? = some x := by rfl) (hx : Vis X.env.scope x := by first | exact Or.inl rfl | exact Or.inr (Or.inl rfl) | exact Or.inr (Or.inr rfl))
    (hd : (x == ("__debug__" : Str)) = false := by decide) (hcd : (x == ("__classdict__" : Str)) = false := by decide)
    (ha : ∀ v, assign (.Subscript (.Name x p1) ke pos) X.env v = (do
      let ov ← holding [v] (eval (.Name x p1) X.env)
      let iv ← holding [v, ov] (eval ke X.env)
      standAt pos
      holding [v, ov, iv] (setItem ov iv v)
      release [v, ov, iv] []) := by intro _; rfl) : DG X (.Subscript (.Name x p1) ke pos) (fun d σ => (fk σ).bind fun kx => putAtD i kx d σ) := by
  obtain ⟨t, pe, p⟩ := hk
  refine ⟨_, pg_sub (pe_var hi hx hd hcd) pe (set_or (set_N hu) (set_K hu)) ha, fun G σD σV H v d Q σD' rl rp e q => ?_⟩
  obtain ⟨kx, e2, e3⟩ := Option.bind_eq_some_iff.mp e
  have hz : ∃ a, σV[i]? = some (some (V.ref a)) := by
    obtain ⟨m, hm⟩ := putAt_own e3
    obtain ⟨a, hv, _⟩ := rl.mu hm
    exact ⟨a, hv⟩
  obtain ⟨a, hv⟩ := hz
  refine ⟨_, hv, p G σD σV H _ kx rl e2 fun y H2 s2 r2 => ?_⟩
  obtain ⟨a', hv', z⟩ := put_at (rl.grow s2) r2 (Rep.mono (.same s2) rp) e3 (Q := fun H4 => Q σV H4) (fun H' rl' k => q σV H' rl' ((Kept.same s2).trans k))
  rw [hv] at hv'
  cases hv'
  exact z
def DGs (X : Cx) (ts : List Expr) (g : List D → DSt → Option DSt) : Prop :=
  ∃ t : TGs, PGs X ts t ∧ ∀ (G : Hp) (σD : DSt) (σV : L2.St) (H : Hp) (us : List V) (ds : List D) (Q : L2.St → Hp → Prop) (σD' : DSt), DRel X.w X.K G σD σV H → Reps X.w X.K H us ds → g ds σD = some σD' → (∀ σV' H', DRel X.w X.K G σD' σV' H' → Kept H H' → Q σV' H') → t us σV H Q
theorem dgg_nil : DGs X [] gsNil := by
  refine ⟨_, pgs_nil, fun G σD σV H us ds Q σD' rl rp e q => ?_⟩
  cases rp with
  | nil => cases e; exact ⟨rfl, q σV H rl (Kept.refl H)⟩
  | cons r t => cases e
theorem dgg_cons {e : Expr} {es : List Expr} {g : D → DSt → Option DSt} {h : List D → DSt → Option DSt} (h1 : DG X e g) (h2 : DGs X es h)
    (hs : (assignEach (e :: es) X.env).map (·.2) = assign e X.env :: (assignEach es X.env).map (·.2) := by rfl) : DGs X (e :: es) (gsCons g h) := by
  obtain ⟨t, pg, p⟩ := h1
  obtain ⟨u, pgs, p2⟩ := h2
  refine ⟨_, pgs_cons pg pgs hs, fun G σD σV H xs ds Q σD' rl rp e q => ?_⟩
  cases rp with
  | nil => cases e
  | cons r1 r2 =>
    obtain ⟨σ1, e1, e⟩ := Option.bind_eq_some_iff.mp e
    refine ⟨_, _, rfl, p G σD σV H _ _ _ σ1 rl r1 e1 fun σV1 H1 rl1 k1 => ?_⟩
    exact p2 G σ1 σV1 H1 _ _ Q σD' rl1 (r2.mono k1) e fun σV2 H2 rl2 k2 => q σV2 H2 rl2 (k1.trans k2)
theorem dgg_tup {es : List Expr} {k : Nat} {h : List D → DSt → Option DSt} {n : Nat} (hc : X.calm = true) (hg : DGs X es h) (hl : ∀ ds σ σ', h ds σ = some σ' → ds.length = n)
    (hn : (assignEach es X.env).length = n := by rfl) (hst : (assignEach es X.env).findIdx? (·.1) = none := by rfl) : DG X (.Tuple es k pos) (gTp h) := by
  obtain ⟨t, pg, p⟩ := hg
  refine ⟨_, pg_tup hc pg hn hst, fun G σD σV H v d Q σD' rl rp e q => ?_⟩
  obtain ⟨ds, e1, e⟩ := Option.bind_eq_some_iff.mp e
  have e1 := asTup_some e1
  subst e1
  obtain ⟨a, us, rfl, hs, ru⟩ := RdR.tup (.inl rp)
  exact ⟨a, us, rfl, hs, by rw [ru.length]; exact hl ds σD σD' e, p G σD σV H us ds Q σD' rl ru e q⟩
theorem gs_len0 {ds : List D} {σ σ' : DSt} (h : gsNil ds σ = some σ') : ds.length = 0 := by
  cases ds with
  | nil => rfl
  | cons _ _ => cases h
theorem gs_lenS {g : D → DSt → Option DSt} {h : List D → DSt → Option DSt} {n : Nat} (ih : ∀ ds σ σ', h ds σ = some σ' → ds.length = n) : ∀ ds σ σ', gsCons g h ds σ = some σ' → ds.length = n + 1 := fun ds σ σ' e => by
  cases ds with
  | nil => cases e
  | cons d r =>
    obtain ⟨σ1, e1, e⟩ := Option.bind_eq_some_iff.mp e
    rw [List.length_cons, ih r σ1 σ' e]
theorem gs_len2 {g1 g2 : D → DSt → Option DSt} : ∀ ds σ σ', gsCons g1 (gsCons g2 gsNil) ds σ = some σ' → ds.length = 2 := gs_lenS (gs_lenS fun _ _ _ h => gs_len0 h)
theorem gs_len3 {g1 g2 g3 : D → DSt → Option DSt} : ∀ ds σ σ', gsCons g1 (gsCons g2 (gsCons g3 gsNil)) ds σ = some σ' → ds.length = 3 := gs_lenS (gs_lenS (gs_lenS fun _ _ _ h => gs_len0 h))

/-! ### x.append(e), y = x.pop(), d.pop(k) -/
def appD (i : Nat) (d : D) (σ : DSt) : Option DSt := match σ[i]? with
  | some (some (.mu (.lst ds))) => if ds.length < 100000 then some (σ.set i (some (.mu (.lst (ds ++ [d]))))) else none
  | _ => none
def sApp (i : Nat) (f : DSt → Option D) : DSt → Option Out := fun σ => (f σ).bind fun d => (appD i d σ).map Out.nx
theorem ds_app (i : Nat) {x : Str} {e : Expr} {p1 apos cpos : Pos} {f : DSt → Option D} (he : DE X e f) (hi : X.N[i]? = some x := by rfl) (hx : Vis X.env.scope x := by first | exact Or.inl rfl | exact Or.inr (Or.inl rfl) | exact Or.inr (Or.inr rfl))
    (hbase : attributeBase (.Name x p1) "append" X.env (eval (.Name x p1) X.env) = eval (.Name x p1) X.env := by rfl)
    (hfew : ((backTo cpos (starEach [e] X.env)).all (fun x => !x.1) && (backToKw cpos (keywordEach [] X.env)).all (fun x => x.1.isSome)
      && decide (([e] : List Expr).length + ([] : List Keyword).length + (if ([] : List Keyword).isEmpty then 0 else 1) < 30)) = true := by rfl)
    (hline : (apos.endLine == cpos.line) = true := by rfl) (hs : starEach [e] X.env = (false, eval e X.env) :: starEach [] X.env := by rfl) (hplain : (backTo cpos (starEach [] X.env)).any (·.1) = false := by rfl)
    (hsw : swapsWith (.Call (.Attribute (.Name x p1) "append" apos) [e] [] cpos) none pos.line X.env = pure false := by rfl) (hd : (x == ("__debug__" : Str)) = false := by decide) (hcd : (x == ("__classdict__" : Str)) = false := by decide) :
    DS X (.Expr (.Call (.Attribute (.Name x p1) "append" apos) [e] [] cpos) pos) (sApp i f) := by
  obtain ⟨t, pe, p⟩ := he
  refine ⟨_, ps_expr (pe_bm PySem.F.plainAttrs_list PySem.F.slot_list_append PySem.F.type_list_append mt_append (pe_var hi hx hd hcd) (pa_cons pe pa_nil hs) hbase hfew hline hs hplain) hsw, fun G σD σV H E o rl e ac => ?_⟩
  obtain ⟨d, e1, e⟩ := Option.bind_eq_some_iff.mp e
  obtain ⟨σ', e2, rfl⟩ := Option.map_eq_some_iff.mp e
  unfold appD at e2
  split at e2
  · rename_i ds hds
    split at e2
    · rename_i hl
      cases e2
      obtain ⟨a, hv, g, o, ho, vs, rfl, rp⟩ := rl.mu hds
      refine ⟨_, hv, .inl ⟨rfl, vs, .of ho⟩, p G σD σV H _ d rl e1 fun v H1 s1 r1 => ?_⟩
      have ho1 := s1 _ _ ho
      refine ⟨a, vs, v, rfl, rfl, ho1, by rw [rp.length]; exact line_lt hl, ac σV _ ?_⟩
      exact (rl.grow s1).write hds hv ho1 True.intro fun H' k => ⟨_, rfl, (rp.mono ((Kept.same s1).trans k)).append (.cons (Rep.mono k r1) .nil)⟩
    · cases e2
  · cases e2
def popD (i j : Nat) (σ : DSt) : Option DSt := match σ[j]? with
  | some (some (.mu (.lst ds))) => ds.getLast?.map fun d => (σ.set j (some (.mu (.lst ds.dropLast)))).set i (some (.im d))
  | _ => none
def sPop (i j : Nat) : DSt → Option Out := fun σ => (popD i j σ).map Out.nx
theorem Reps.dropLast {w : World} {K : PySem.W.Frag} {H : Hp} {vs : List V} {ds : List D} (r : Reps w K H vs ds) : Reps w K H vs.dropLast ds.dropLast := by
  rw [List.dropLast_eq_take, List.dropLast_eq_take, r.length]
  exact r.take _
theorem ds_pop (i j : Nat) {y x : Str} {p1 p2 apos cpos : Pos} (hN : X.N.Nodup) (hi : X.N[i]? = some y := by rfl) (hyl : Loc X.env.scope y := by first | exact Or.inl rfl | exact Or.inr rfl) (hj : X.N[j]? = some x := by rfl) (hx : Vis X.env.scope x := by first | exact Or.inl rfl | exact Or.inr (Or.inl rfl) | exact Or.inr (Or.inr rfl))
    (hbase : attributeBase (.Name x p1) "pop" X.env (eval (.Name x p1) X.env) = eval (.Name x p1) X.env := by rfl) (hline : (apos.endLine == cpos.line) = true := by rfl)
    (hs : swapsWith (.Call (.Attribute (.Name x p1) "pop" apos) [] [] cpos) (some (.Name y p2)) pos.line X.env = pure false := by rfl) (hf : X.fn y = true ∨ X.env.scope.names.lookup y = some .local := by first | exact .inl rfl | exact .inr rfl | assumption)
    (hd : (x == ("__debug__" : Str)) = false := by decide) (hcd : (x == ("__classdict__" : Str)) = false := by decide) :
    DS X (.Assign [.Name y p2] (.Call (.Attribute (.Name x p1) "pop" apos) [] [] cpos) pos) (sPop i j) := by
  refine ⟨_, ps_set hN hi hyl (pe_bm0 PySem.F.plainAttrs_list PySem.F.slot_list_pop PySem.F.type_list_pop mt_pop (pe_var hj hx hd hcd) hbase hline) hs hf, fun G σD σV H E o rl e ac => ?_⟩
  obtain ⟨σ', e2, rfl⟩ := Option.map_eq_some_iff.mp e
  unfold popD at e2
  split at e2
  · rename_i ds hds
    obtain ⟨d, e3, rfl⟩ := Option.map_eq_some_iff.mp e2
    obtain ⟨a, hv, g, o, ho, vs, rfl, rp⟩ := rl.mu hds
    rw [List.getLast?_eq_getElem?] at e3
    obtain ⟨z, hz, rz⟩ := rp.get e3
    rw [← rp.length] at hz
    refine ⟨_, hv, .inl ⟨rfl, vs, .of ho⟩, a, vs, z, rfl, rfl, ho, hz, ac _ _ ?_⟩
    have k : Kept H (upd H a (.lst vs.dropLast)) := .write ho True.intro
    exact (rl.write (m' := .lst ds.dropLast) (o' := .lst vs.dropLast) hds hv ho True.intro fun H' k => ⟨_, rfl, (Reps.dropLast rp).mono k⟩).setIm (Rep.mono k rz) i
  · cases e2
def dpopD (i : Nat) (kx : D) (σ : DSt) : Option DSt := match σ[i]? with
  | some (some (.mu (.dicK es))) => (keyK kx).bind fun k => (lookE (es.map (·.1)) (es.map (·.2)) k).map fun _ => σ.set i (some (.mu (.dicK (dropM es k))))
  | _ => none
def sDpop (i : Nat) (f : DSt → Option D) : DSt → Option Out := fun σ => (f σ).bind fun kx => (dpopD i kx σ).map Out.nx
theorem ds_dpop (i : Nat) {x : Str} {e : Expr} {p1 apos cpos : Pos} {f : DSt → Option D} (he : DE X e f) (hi : X.N[i]? = some x := by rfl) (hx : Vis X.env.scope x := by first | exact Or.inl rfl | exact Or.inr (Or.inl rfl) | exact Or.inr (Or.inr rfl))
    (m : M1 X (.Name x p1) "pop" apos e cpos := by exact ⟨rfl, rfl, rfl, rfl⟩)
    (hsw : swapsWith (.Call (.Attribute (.Name x p1) "pop" apos) [e] [] cpos) none pos.line X.env = pure false := by rfl) (hd : (x == ("__debug__" : Str)) = false := by decide) (hcd : (x == ("__classdict__" : Str)) = false := by decide) :
    DS X (.Expr (.Call (.Attribute (.Name x p1) "pop" apos) [e] [] cpos) pos) (sDpop i f) := by
  obtain ⟨t, pe, p⟩ := he
  refine ⟨_, ps_expr (pe_dpop1 (pe_var hi hx hd hcd) pe m) hsw, fun G σD σV H E o rl e ac => ?_⟩
  obtain ⟨kx, e1, e⟩ := Option.bind_eq_some_iff.mp e
  obtain ⟨σ', e2, rfl⟩ := Option.map_eq_some_iff.mp e
  unfold dpopD at e2
  split at e2
  · rename_i es he
    obtain ⟨k, e3, e2⟩ := Option.bind_eq_some_iff.mp e2
    obtain ⟨d0, e4, rfl⟩ := Option.map_eq_some_iff.mp e2
    obtain ⟨a, hv, g, o, ho, kvs, rfl, ek, vr⟩ := rl.mu he
    refine ⟨_, hv, a, rfl, .inl ⟨kvs, .inl ho⟩, p G σD σV H _ kx rl e1 fun y H1 s1 r1 => ?_⟩
    have ho1 := s1 _ _ ho
    rw [← ek] at e4
    obtain ⟨z, hz, rz⟩ := (look_valV vr k).1 d0 e4
    refine ⟨kvs, k, z, ho1, keyK_v (.inl r1) e3, hz, ac σV _ ?_⟩
    refine (rl.grow s1).write he hv ho1 True.intro fun H' kk => ?_
    obtain ⟨i1, i2⟩ := dropK_M k ek (vr.mono ((Kept.same s1).trans kk))
    exact ⟨_, rfl, i1, i2⟩
  · cases e2

/-! ### own defs -/
def spD (w : World) (K : PySem.W.Frag) (n : Nat) (m : List D → Option D) : Sp := fun vs H Q _ => ∃ ds d, Reps w K H vs ds ∧ ds.length = n ∧ m ds = some d ∧ ∀ v H', Same H H' → Rep w K H' v d → Q v H'
theorem d_call {CX : CXT} {k n : Nat} {f : Addr} {fd : FuncData} {ps : List Str} {m : List D → Option D} {x : Str} {p : Pos} {e : Expr} {es : List Expr} {fa : DSt → Option (List D)} {E : XK} (F : FnOk X.prog X.w X.K X.mg X.base CX k f fd ps (spD X.w X.K n m)) (hr : Room k X.A) (hm : X.mg x = some (.ref f)) (hk : PySem.W.keepIn X.K (.ref f) = true) (hb : Binds X.K fd ps [])
    (ha : DA X (e :: es) fa) (hx : Passes CX X E) (hn : (e :: es).length = n := by rfl) (hg : Gl X x := by rfl) (hdb : (x == ("__debug__" : Str)) = false := by decide) (he : starEach (e :: es) X.env = (false, eval e X.env) :: starEach es X.env := by rfl) (hpl : (backTo pos (starEach es X.env)).any (·.1) = false := by rfl) :
    DE X (.Call (.Name x p) (e :: es) [] pos) (fCall m fa) := by
  obtain ⟨t, pa, pl, q1⟩ := ha
  refine ⟨_, pe_call F hr hg hm hk hb .nil hx pa hdb he hpl, fun G σD σV H Q d rl e q => ?_⟩
  obtain ⟨ds, e1, e⟩ := Option.bind_eq_some_iff.mp e
  refine q1 G σD σV H _ ds rl e1 fun vs H1 s1 r1 => ⟨ds, d, ?_, (pl _ _ e1).trans hn, e, fun v H2 s2 r2 => q v H2 (s1.trans s2) r2⟩
  rw [List.append_nil]
  exact reps_of r1
/-! an own list or dict lent to a call -/
mutual
def D.flatB : D → Bool
  | .tup xs => flatsB xs
  | .lst _ => false
  | .dic _ _ => false
  | .dicK _ _ => false
  | .adr _ => false
  | _ => true
def flatsB : List D → Bool
  | [] => true
  | x :: xs => x.flatB && flatsB xs
end
section
variable {w : World} {K : PySem.W.Frag} {H : Hp} {b : Addr} {od : Obj} {u : HO}
theorem SqT.thaw {a : Addr} {xs : List V} (h : H b = some (.frz od u)) (mu : Mut (some u)) (s : SqT K H a xs) : SqT K (upd H b u) a xs := by
  rcases s with (s | ⟨o, s⟩) | s
  · refine .inl (.inl ?_)
    rw [upd_ne (fun z => by rw [z, h] at s; cases s)]
    exact s
  · refine .inl (.inr ⟨o, ?_⟩)
    rw [upd_ne (fun z => by rw [z, h] at s; cases s; exact mu)]
    exact s
  · exact .inr s
mutual
theorem Rep.thaw (h : H b = some (.frz od u)) (mu : Mut (some u)) : ∀ {v : V} {d : D}, d.flatB = true → Rep w K H v d → Rep w K (upd H b u) v d
  | _, _, _, .non => .non
  | _, _, _, .bl b => .bl b
  | _, _, _, .int i => .int i
  | _, _, _, .str x => .str x
  | _, _, f, .tup s r => .tup (SqT.thaw h mu s) (Reps.thaw h mu (by rw [D.flatB] at f; exact f) r)
  | _, _, f, .lst s r => by rw [D.flatB] at f; cases f
  | _, _, f, .dic ents s e r1 r2 z => by rw [D.flatB] at f; cases f
  | _, _, f, .dicK kvs s e r => by rw [D.flatB] at f; cases f
  | _, .adr _, f, _ => by rw [D.flatB] at f; cases f
theorem Reps.thaw (h : H b = some (.frz od u)) (mu : Mut (some u)) : ∀ {vs : List V} {ds : List D}, flatsB ds = true → Reps w K H vs ds → Reps w K (upd H b u) vs ds
  | _, _, _, .nil => .nil
  | _, _, f, .cons r t => by
    rw [flatsB, Bool.and_eq_true] at f
    exact .cons (Rep.thaw h mu f.1 r) (Reps.thaw h mu f.2 t)
end
end
def tLockO (t : TE) : TE := fun σ H Q => t σ H Q ∨ tLockE t σ H Q
theorem pe_lockO {e : Expr} {t : TE} (h : PE X e t) : PE X e (tLockO t) := ⟨fun pins s σ H Q I hw => hw.elim (h.run pins s σ H Q I) ((pe_lock h).run pins s σ H Q I)⟩
def fBor (i : Nat) (f : DSt → Option D) : DSt → Option D := fun σ => match σ[i]? with
  | some (some (.mu m)) => (f (σ.set i (some (.im m.frz)))).bind fun d => if d.flatB = true then some d else none
  | _ => f σ
theorem d_bor (i : Nat) {e : Expr} {f : DSt → Option D} (h : DE X e f) : DE X e (fBor i f) := by
  obtain ⟨t, pe, p⟩ := h
  refine ⟨_, pe_lockO pe, fun G σD σV H Q d rl e q => ?_⟩
  unfold fBor at e
  split at e
  · rename_i m hm
    obtain ⟨d', e1, e⟩ := Option.bind_eq_some_iff.mp e
    split at e
    · rename_i fl
      cases e
      obtain ⟨b, hv, g0, u, hb, c⟩ := rl.mu hm
      refine .inr ⟨b, u, hb, c.mut, fun od => ?_⟩
      refine p G _ σV _ _ d (rl.freeze hm hv hb od) e1 fun v H1 s1 r1 => ?_
      have h1 : H1 b = some (.frz od u) := s1 _ _ upd_same
      refine ⟨h1, q v _ (fun a o ha => ?_) (Rep.thaw h1 c.mut fl r1)⟩
      by_cases hab : a = b
      · subst hab
        rw [hb] at ha
        cases ha
        exact upd_same
      · rw [upd_ne hab]
        exact s1 _ _ (by rw [upd_ne hab]; exact ha)
    · cases e
  · exact .inl (p G σD σV H Q d rl e q)
/-- what a def computes -/
def runD (n : Nat) (g : DSt → Option Out) (ds : List D) : Option D := (g (ds.map (fun d => some (DV.im d)) ++ List.replicate (n - ds.length) none)).map fun o => match o with
  | .nx _ => D.non
  | .rt d => d
theorem start_rel {w : World} {K : PySem.W.Frag} {H : Hp} {N : List Str} {vs : List V} {ds : List D} (r : Reps w K H vs ds) : DRel w K H (ds.map (fun d => some (DV.im d)) ++ List.replicate (N.length - ds.length) none) (L2.start N vs) H := by
  have at_ : ∀ (i : Nat) (dv : DV), (ds.map (fun d => some (DV.im d)) ++ List.replicate (N.length - ds.length) none)[i]? = some (some dv) → ∃ d, ds[i]? = some d ∧ dv = .im d := fun i dv e => by
    by_cases hi : i < ds.length
    · rw [List.getElem?_append_left (by rw [List.length_map]; exact hi), List.getElem?_map] at e
      cases h : ds[i]? with
      | none => rw [h] at e; cases e
      | some d => rw [h] at e; cases e; exact ⟨d, rfl, rfl⟩
    · rw [List.getElem?_append_right (by rw [List.length_map]; omega), List.getElem?_replicate] at e
      split at e
      · cases e
      · cases e
  refine ⟨by rw [List.length_append, List.length_map, List.length_replicate]; unfold L2.start; rw [List.length_append, List.length_map, List.length_replicate, r.length], Same.refl H, fun i dv e => ?_, fun i j m m' a e1 e2 _ _ => ?_⟩
  · obtain ⟨d, e1, rfl⟩ := at_ i dv e
    obtain ⟨v, e2, rv⟩ := r.get e1
    refine ⟨v, ?_, rv⟩
    have hi : i < vs.length := (List.getElem?_eq_some_iff.mp e2).1
    unfold L2.start
    rw [List.getElem?_append_left (by rw [List.length_map]; exact hi), List.getElem?_map, e2]
    rfl
  · obtain ⟨d, _, z⟩ := at_ i _ e1
    cases z
end
/-- THE RULE for a def: its body by the layer's rules -/
theorem fun_okD {P : Program} {w : World} {K : PySem.W.Frag} {mg : Str → Option Value} {base : Heap} {x qual : Str} {st : Stmt} {f : Addr} {fd : FuncData} {N ps : List Str} {k : Nat} {g : DSt → Option Out} (F : Fun K x qual st f fd) (S : FnScope N ps (defScope st))
    (hbody : ∀ (cdv : Value) (A : Around) (outer : List Env) (s : Shared) (H : Hp) (E : XK), Room k (A.deeper (envOfC qual (defScope st) s.heap.objs.size f cdv)) → DSs (cxOf CX0 P w K mg base N qual (defScope st) f cdv A outer s H E).nox (defBody st) g) : FnOk P w K mg base CX0 (k + 1) f fd ps (spD w K ps.length (runD N.length g)) := by
  refine F.ok S (fun vs H Q E h => ?_) fun cdv A outer s H vs Q E hr h => ?_
  · obtain ⟨ds, d, r, hl, _⟩ := h
    rw [r.length, hl]
  · obtain ⟨ds, d, r, hl, e, q⟩ := h
    obtain ⟨t, ps', p⟩ := hbody cdv A outer s H E hr
    refine ⟨t, ps', ?_⟩
    unfold runD at e
    obtain ⟨o, e1, e2⟩ := Option.map_eq_some_iff.mp e
    refine p H _ (L2.start N vs) H _ o (start_rel r) e1 ?_
    cases o with
    | nx σ' =>
      cases e2
      exact fun σV H' rl => q .non H' rl.same .non
    | rt d' =>
      cases e2
      exact fun v H' s r => q v H' s r
end Deep
set_option maxRecDepth 100000
set_option maxHeartbeats 4000000
namespace Deep
open PySem PySem.Spec PyProof.Rows L2
section
variable {X : Cx} {pos : Pos}
/-! ### len(d), list(d) of a dict -/
def gLenD : List D → Option D
  | [.dic ks _] => some (.int (ks.length : Nat))
  | [.dicK ks _] => some (.int (ks.length : Nat))
  | _ => none
theorem len_small {n : Nat} (h : n ≤ sizeLine) : ¬ (n : Int) < 0 ∧ ¬ (n : Int) ≥ 2 ^ 63 := by rw [sizeLine_eq] at h; omega
theorem call_lenD : CallR X (.builtin "len") (fun xs H Q => (∃ (a : Addr) (ents : List Ent), xs = [.ref a] ∧ Rd H a (dO X.w a ents) ∧ Reps X.w X.K H (ents.map fun e => V.ref e.2.1) (kds (ents.map (·.1))) ∧ (∀ k ∈ ents.map (·.1), k.depth ≤ 8) ∧ Q (.int (ents.length : Nat)) H) ∨
    ∃ (a : Addr) (kvs : List (Key × V)), xs = [.ref a] ∧ Rd H a (.dK kvs) ∧ Q (.int (kvs.length : Nat)) H) := by
  intro pins s σ H xs us Q I r h
  rcases h with ⟨a, ents, rfl, hd, kr, dp, q⟩ | ⟨a, kvs, rfl, hd, q⟩
  · rw [Vals.ref1 r]
    obtain ⟨xs, pr, dd, hsm, hz⟩ := dict_is I hd kr dp
    have hl : ents.length = xs.length := Paired.length pr
    have hk : s.heap.DictKeyed (nestedKind X.prog X.w) a (pairsH xs) := ⟨xs, dd, rfl⟩
    have hp : (pairsH xs).length = ents.length := by rw [pairsH_length, hl]
    obtain ⟨l1, l2⟩ := len_small hz
    refine PyProof.Rows.call_len_slot (n := ((ents.length : Nat) : Int)) hk.typeIs F.slot_dict_len (fun Q' hq => len_keyed hsm hk (by rw [hp]; exact hq)) l1 l2 ?_
    exact ⟨.int (ents.length : Nat), H, I.tok _, ⟨_, rfl⟩, q⟩
  · rw [Vals.ref1 r]
    exact d_len I hd fun t s' I' => ⟨.int (kvs.length : Nat), H, I', ⟨t, rfl⟩, q⟩
theorem cd_lenD : CallD X (.builtin "len") gLenD := by
  refine ⟨_, call_lenD, fun H vs ds d Q r e q => ?_⟩
  unfold gLenD at e
  split at e
  · rename_i ks ds'
    cases e
    obtain ⟨v, rfl, r1⟩ := one_of r
    obtain ⟨a, ents, rfl, hd, rfl, kr, vr, dp⟩ := r1.dic
    refine .inl ⟨a, ents, rfl, hd, kr, dp, ?_⟩
    have := q _ H (Same.refl H) (.int _)
    rw [List.length_map] at this
    exact this
  · rename_i ks ds'
    cases e
    obtain ⟨v, rfl, r1⟩ := one_of r
    obtain ⟨a, kvs, rfl, hd, rfl, vr⟩ := r1.dicK
    refine .inr ⟨a, kvs, rfl, hd, ?_⟩
    have := q _ H (Same.refl H) (.int _)
    rw [List.length_map] at this
    exact this
  · cases e
def keyD : Key → D
  | .inl i => .int i
  | .inr x => .str x
theorem keyD_rep {w : World} {K : PySem.W.Frag} {H : Hp} : ∀ (ks : List Key), Reps w K H (ks.map kV) (ks.map keyD)
  | [] => .nil
  | .inl i :: ks => .cons (.int i) (keyD_rep ks)
  | .inr x :: ks => .cons (.str x) (keyD_rep ks)
def gLstD : List D → Option MO
  | [.dic ks _] => some (.lst (kds ks))
  | [.dicK ks _] => some (.lst (ks.map keyD))
  | _ => none
/-- the keys' own values, in order -/
theorem keys_list {s : Shared} {a : Addr} {o : Obj} {es : Array DictEntry} {ep : Nat} {A : Around} {E : Value → Shared → Prop} {vs : List V} {pins : List (Addr × Obj)} {σ : L2.St} {H : Hp} {Q : VK} (I : Inv X pins σ H s) (hh : A.handled = none) (hs : (a == sysModules) = false) (ho : s.heap.get? a = some o) (hx : o.ExactDict) (hd : o.data = .dict es ep)
    (hl : es.size = vs.length) (hz : vs.length ≤ sizeLine) (hv : ∀ (i : Nat) (en : DictEntry) (v : V), es[i]? = some en → vs[i]? = some v → RelV v en.key) (q : ∀ p, H p = none → Q (.ref p) (upd H p (.lst vs))) : wpAny (model X.prog X.w) A (call (.type "list") [.ref a]) (EP X pins σ Q) E s := by
  refine PySem.W.kdl_call (kdl_raw hs hx hd) hh ho (by omega) fun h' tk acc' c' kp e it => ?_
  have rv : Vals vs acc'.toList := by
    refine vals_of_at (by have h0 := it.1; simp only [Array.length_toList]; omega) fun j x u h1 h2 => ?_
    obtain ⟨en, hen, hv'⟩ := it.2 j u (by rw [← Array.getElem?_toList]; exact h2)
    rw [hv']
    exact hv j en x hen h1
  refine ⟨.ref s.heap.objs.size, _, I.laid (t' := tk) (o := .lst vs) kp (Nat.le_refl _) ?_, rfl, q _ (I.hok.fresh (Nat.le_refl _))⟩
  exact ⟨hz, acc'.toList, c', rv, by rw [Array.toArray_toList]; exact e⟩
theorem call_listD (hc : X.calm = true) : CallR X (.type "list") (fun xs H Q => (∃ (a : Addr) (ents : List Ent), xs = [.ref a] ∧ Rd H a (dO X.w a ents) ∧ ∀ p, H p = none → Q (.ref p) (upd H p (.lst (ents.map fun e => V.ref e.2.1)))) ∨
    ∃ (a : Addr) (kvs : List (Key × V)), xs = [.ref a] ∧ Rd H a (.dK kvs) ∧ ∀ p, H p = none → Q (.ref p) (upd H p (.lst ((kvs.map (·.1)).map kV)))) := by
  intro pins s σ H xs us Q I r h
  rcases h with ⟨a, ents, rfl, hd, q⟩ | ⟨a, kvs, rfl, hd, q⟩
  · rw [Vals.ref1 r]
    obtain ⟨⟨z, hs, xs, o, es, ep, pr, ho, hx, hdt, he, _⟩, _⟩ := (show ObjOk X.prog X.w H s.heap a (dO X.w a ents) from hd.ok I.hok)
    have he' : es.toList = xs.map (entryOfKey (nestedKind X.prog X.w)) := he
    have l1 : es.size = xs.length := size_of_entries he'
    have l2 : ents.length = xs.length := Paired.length pr
    refine keys_list I (I.ok.hd hc) hs ho hx hdt (by rw [List.length_map]; omega) (by rw [List.length_map]; exact z) (fun i en v h1 h2 => ?_) q
    rw [List.getElem?_map] at h2
    obtain ⟨e, h3, rfl⟩ := Option.map_eq_some_iff.mp h2
    obtain ⟨b, hb, e2⟩ := paired_get pr h3
    have q2 := entry_at he' i
    rw [hb, h1] at q2
    have e3 : en = entryOfKey (nestedKind X.prog X.w) b := Option.some.inj q2
    rw [e3]
    exact (show Value.ref b.2.1 = Value.ref e.2.1 by rw [e2.2.1])
  · rw [Vals.ref1 r]
    obtain ⟨z, lo, vs, rk, hdo⟩ := (show ObjOk X.prog X.w H s.heap a (.dK kvs) from hd.ok I.hok)
    obtain ⟨ep, hat⟩ := hdo.dictAt
    have hl : kvs.length = vs.length := Paired.length rk
    refine PySem.W.kdl_call (PySem.W.kdl_dict (knd := mixKind X.prog X.w) (kvs := vs) (ep := ep) lo) (I.ok.hd hc) hat (by rw [← hl]; exact z) fun h' tk acc' c' hkeep hS hacc => ?_
    have el : acc'.toList.length = acc'.size := by simp
    have rv : Vals ((kvs.map (·.1)).map kV) acc'.toList := by
      refine vals_of_at (by rw [List.length_map, List.length_map, el, hacc.1, hl]) fun j x w h1 h2 => ?_
      obtain ⟨k, y, hky, hi⟩ := hacc.2 j w (by rw [← Array.getElem?_toList]; exact h2)
      have e1 : (kvs.map (·.1))[j]? = some k := by
        rw [KV.keys rk, List.getElem?_map, hky] <;> rfl
      rw [List.getElem?_map, e1] at h1
      cases h1
      exact keyIs_rel hi
    exact ⟨.ref s.heap.objs.size, _, I.laid (t' := tk) (o := .lst ((kvs.map (·.1)).map kV)) hkeep (Nat.le_refl _) ⟨by rw [List.length_map, List.length_map]; exact z, acc'.toList, c', rv, by rw [Array.toArray_toList]; exact hS⟩, rfl, q _ (I.hok.fresh (Nat.le_refl _))⟩
theorem cn_listD (hc : X.calm = true) : CallN X (.type "list") gLstD := by
  refine ⟨_, call_listD hc, fun H vs ds d Q r e q => ?_⟩
  unfold gLstD at e
  split at e
  · rename_i ks ds'
    cases e
    obtain ⟨v, rfl, r1⟩ := one_of r
    obtain ⟨a, ents, rfl, hd, rfl, kr, vr, dp⟩ := r1.dic
    exact .inl ⟨a, ents, rfl, hd, fun p hp => q p _ (upd_same_of hp) hp ⟨_, upd_same, _, rfl, kr.mono (.new hp)⟩⟩
  · rename_i ks ds'
    cases e
    obtain ⟨v, rfl, r1⟩ := one_of r
    obtain ⟨a, kvs, rfl, hd, rfl, vr⟩ := r1.dicK
    exact .inr ⟨a, kvs, rfl, hd, fun p hp => q p _ (upd_same_of hp) hp ⟨_, upd_same, _, rfl, keyD_rep _⟩⟩
  · cases e
/-! ### tuple * int -/
theorem tup_mul1 (l : Addr) (items : Array Value) (n : Nat) (dd : Option Addr) (sl : Array (Option Value)) (u : Tok) : Meets (Builtin.«tuple.__mul__» ⟨[.ref l, .int 1 u], []⟩) (fun _ R s => s.heap.get? l = some { cls := .type "tuple", dict := dd, data := .seq items n, slots := sl } ∧ R (.ok (.ret (Value.ref l))) s) :=
  .of_wp fun prog w A R s h => by
    obtain ⟨hp, g, d, tk, os⟩ := s
    obtain ⟨hl, h⟩ := h
    have f1 := AutoSeq1.idx_int
    wp_walk using wpAny_loadPart' hl
    exact ⟨_, rfl, h⟩
theorem tup_mul0 (l : Addr) (items : Array Value) (n : Nat) (dd : Option Addr) (sl : Array (Option Value)) (u : Tok) (c1 : (items.isEmpty || (0 : Int) == 1) = false) : Meets (Builtin.«tuple.__mul__» ⟨[.ref l, .int 0 u], []⟩)
    (fun _ R s => s.heap.get? l = some { cls := .type "tuple", dict := dd, data := .seq items n, slots := sl } ∧ R (.ok (.ret (Value.ref s.heap.objs.size))) { s with heap := s.heap.push { cls := Value.type "tuple", data := Data.seq #[] } }) :=
  .of_wp fun prog w A R s h => by
    obtain ⟨hp, g, d, tk, os⟩ := s
    obtain ⟨hl, h⟩ := h
    have f1 := AutoSeq1.idx_int
    wp_walk using wpAny_loadPart' hl
    repeat (first
      | (refine wpAny_ite_false (decide_eq_false (by rw [c1]; exact Bool.false_ne_true)) ?_; wp_walk using wpAny_loadPart' hl))
    exact ⟨_, rfl, h⟩
def rMul01 (K : PySem.W.Frag) : R2 := fun x y H Q => ∃ l k xs, x = .ref l ∧ y = .int k ∧ SqT K H l xs ∧ xs ≠ [] ∧ ((k = 1 ∧ Q (.ref l) H) ∨ (k = 0 ∧ ∀ p, H p = none → Q (.ref p) (upd H p (.tup []))))
theorem op_mul01 : OpR X (binaryOp .Mult) (rMul01 X.K) := by
  intro pins s σ H x y v u Q I rx ry h
  obtain ⟨l, k, xs, rfl, rfl, hT, hne, q⟩ := h
  cases rx
  obtain ⟨t, rfl⟩ := ry
  obtain ⟨its, r, ⟨⟨cls, dd, data, sl⟩, ho, hc, n, hd⟩, hs⟩ := I.tuple hT
  simp only at hc hd
  subst hc hd
  have hle : its.length = xs.length := r.length.symm
  have hn : its ≠ [] := fun e => hne (by
    rw [e] at hle
    exact List.eq_nil_of_length_eq_zero hle.symm)
  have hi : its.toArray.isEmpty = false := by
    cases its with
    | nil => exact absurd rfl hn
    | cons a b => rfl
  rcases q with ⟨rfl, q⟩ | ⟨rfl, q⟩
  · refine wpAny_binaryOp_repeat_ref (T := "tuple") (U := "int") (by decide) ⟨_, ho, rfl⟩ (fun s' => typeIs_int s' 1 t) noFill_tuple_mul F.fills_int_mul F.slot_int_rmul repeat_tuple F.slot_int_index.lookup
      (call_meets F.slot_int_rmul (typeIs_int s 1 t) F.entry_int_rmul (F.args_int_rmul_2 _ _) (int_rmul_tuple 1 t l its.toArray n dd sl) ⟨ho, rfl, ⟨_, ho, rfl⟩, call_meets F.slot_tuple_mul ⟨_, ho, rfl⟩ F.entry_tuple_mul (F.args_tuple_mul_2 _ _) (tup_mul1 l its.toArray n dd sl t) ⟨ho, ?_⟩⟩)
    exact ⟨.ref l, H, I, rfl, q⟩
  · refine wpAny_binaryOp_repeat_ref (T := "tuple") (U := "int") (by decide) ⟨_, ho, rfl⟩ (fun s' => typeIs_int s' 0 t) noFill_tuple_mul F.fills_int_mul F.slot_int_rmul repeat_tuple F.slot_int_index.lookup
      (call_meets F.slot_int_rmul (typeIs_int s 0 t) F.entry_int_rmul (F.args_int_rmul_2 _ _) (int_rmul_tuple 0 t l its.toArray n dd sl) ⟨ho, rfl, ⟨_, ho, rfl⟩, call_meets F.slot_tuple_mul ⟨_, ho, rfl⟩ F.entry_tuple_mul (F.args_tuple_mul_2 _ _) (tup_mul0 l its.toArray n dd sl t (by rw [hi]; rfl)) ⟨ho, ?_⟩⟩)
    refine ⟨.ref s.heap.objs.size, _, I.laid (t' := s.toks) (o := .tup []) (fun b ob q => Heap.get?_push_of_some _ q) (Nat.le_refl _) ?_, rfl, q _ (I.hok.fresh (Nat.le_refl _))⟩
    exact ⟨Nat.zero_le _, [], .nil, ⟨_, Heap.get?_push_size _ rfl, rfl, _, rfl⟩⟩
def gMulT : D → D → Option D := fun x y => x.asTup.bind fun xs => y.asInt.bind fun k => if (0 ≤ k ∧ k ≤ 1000) ∧ 0 < xs.length ∧ xs.length ≤ 1000 then some (.tup (List.replicate k.toNat xs).flatten) else none
theorem od_mulT : OpD X (binaryOp .Mult) gMulT := by
  refine ⟨_, op_repT.or op_mul01, fun H x y dx dy d Q rx ry e q => ?_⟩
  obtain ⟨xs, e1, e⟩ := Option.bind_eq_some_iff.mp e
  obtain ⟨k, e2, e⟩ := Option.bind_eq_some_iff.mp e
  split at e
  · rename_i hk
    obtain ⟨⟨k0, k1⟩, l0, l1⟩ := hk
    cases e
    rw [asTup_some e1] at rx
    rw [asInt_some e2] at ry
    obtain ⟨a, vs, rfl, sa, ra⟩ := rx.tup
    have hne : vs ≠ [] := fun z => by
      rw [z] at ra
      have := ra.length
      rw [List.length_nil] at this
      omega
    by_cases h2 : 2 ≤ k
    · exact .inl ⟨a, k, vs, rfl, ry.int, sa, hne, h2, k1, by rw [ra.length]; exact l1, fun p hp => q _ _ (upd_same_of hp) (.tup (.of upd_same) ((Reps.rep ra _).mono (.new hp)))⟩
    · refine .inr ⟨a, k, vs, rfl, ry.int, sa, hne, ?_⟩
      by_cases h1 : k = 1
      · subst h1
        refine .inl ⟨rfl, q _ H (Same.refl H) ?_⟩
        have e3 : (List.replicate (1 : Int).toNat xs).flatten = xs := by simp
        rw [e3]
        exact .tup sa ra
      · have h0 : k = 0 := by omega
        subst h0
        refine .inr ⟨rfl, fun p hp => q _ _ (upd_same_of hp) ?_⟩
        exact .tup (.of upd_same) .nil
  · cases e
end
end Deep
set_option maxRecDepth 100000
set_option maxHeartbeats 4000000
namespace Deep
open PySem PySem.Spec PyProof.Rows L2
/-! ### the text -/
def topS (i : Nat) : Stmt := PySem.Challenge.pw_buildroom_k42_whole_leads.main.body.getD i (.Pass ⟨0, 0, 0, 0⟩)
/-- the built-in names are the built-ins' -/
structure Nm (mg : Str → Option Value) : Prop where
  len : mg "len" = none
  max : mg "max" = none
  min : mg "min" = none
  sorted : mg "sorted" = none
  list : mg "list" = none
  tuple : mg "tuple" = none
  int : mg "int" = none
  bool : mg "bool" = none
  str : mg "str" = none
  range : mg "range" = none
  enumerate : mg "enumerate" = none
  isinstance : mg "isinstance" = none
/-- the module's constants -/
structure Cs (K : PySem.W.Frag) (mg : Str → Option Value) where
  (t1 t2 t3 t4 t5 t6 t7 t8 t9 t10 : Tok)
  aR : Addr
  lately : mg "LATELY" = some (.str "lately" t1)
  newest : mg "NEWEST" = some (.str "newest" t2)
  seldom : mg "SELDOM" = some (.str "seldom" t3)
  best : mg "BEST" = some (.str "best" t4)
  room : mg "SHELF_MOST_ROOM" = some (.int 3 t5)
  seen : mg "SHELF_MOST_SEEN" = some (.int 2 t6)
  many : mg "SHELF_MANY" = some (.int 2 t7)
  things : mg "LEAD_MOST_THINGS" = some (.int 4 t8)
  states : mg "LEAD_MOST_STATES" = some (.int 3000 t9)
  rules : mg "SHELF_RULES" = some (.ref aR)
  rulesT : ∀ H, SqT K H aR [.str "eldest", .str "lately", .str "newest", .str "seldom", .str "best"]
/-- an own def that computes m -/
def OwnF (P : Program) (w : World) (K : PySem.W.Frag) (mg : Str → Option Value) (base : Heap) (x : Str) (k n : Nat) (m : List D → Option D) : Prop :=
  ∃ (f : Addr) (fd : FuncData) (ps : List Str), FnOk P w K mg base CX0 k f fd ps (spD w K n m) ∧ mg x = some (.ref f) ∧ PySem.W.keepIn K (.ref f) = true ∧ Binds K fd ps []
theorem own_mk {P : Program} {w : World} {K : PySem.W.Frag} {mg : Str → Option Value} {base : Heap} {x qual : Str} {st : Stmt} {f : Addr} {fd : FuncData} {N ps : List Str} {k : Nat} {g : DSt → Option Out} (F : Fun K x qual st f fd) (hm : mg x = some (.ref f)) (b : Binds K fd ps []) (S : FnScope N ps (defScope st))
    (hbody : ∀ (cdv : Value) (A : Around) (outer : List Env) (s : Shared) (H : Hp) (E : XK), Room k (A.deeper (envOfC qual (defScope st) s.heap.objs.size f cdv)) → DSs (cxOf CX0 P w K mg base N qual (defScope st) f cdv A outer s H E).nox (defBody st) g) : OwnF P w K mg base x (k + 1) ps.length (runD N.length g) :=
  ⟨f, fd, ps, fun_okD F S hbody, hm, F.kp, b⟩
section
variable {X : Cx} {pos p : Pos}
theorem d_own {k j n : Nat} {m : List D → Option D} {x : Str} {e : Expr} {es : List Expr} {fa : DSt → Option (List D)} (F : OwnF X.prog X.w X.K X.mg X.base x k n m) (hr : Room j X.A) (ha : DA X (e :: es) fa) (hj : k ≤ j := by decide)
    (hn : (e :: es).length = n := by rfl) (hg : Gl X x := by rfl) (hdb : (x == ("__debug__" : Str)) = false := by decide) (he : starEach (e :: es) X.env = (false, eval e X.env) :: starEach es X.env := by rfl) (hpl : (backTo pos (starEach es X.env)).any (·.1) = false := by rfl) : DE X (.Call (.Name x p) (e :: es) [] pos) (fCall m fa) := by
  obtain ⟨f, fd, ps, F, hm, kp, b⟩ := F
  exact d_call F (hr.mono hj) hm kp b ha pass0 hn hg hdb he hpl
variable {e e2 : Expr} {f f2 : DSt → Option D}
theorem x_len (T : Nm X.mg) (h : DR X e f) (hg : Gl X "len" := by rfl) (hs : starEach [e] X.env = (false, eval e X.env) :: starEach [] X.env := by rfl) (hpl : (backTo pos (starEach [] X.env)).any (·.1) = false := by rfl) : DE X (.Call (.Name "len" p) [e] [] pos) (fCall gLen (fCons f fNil)) := d_callB cd_len hg T.len PySem.boot_len (dar_cons h dar_nil hs) (he := hs) (hpl := hpl)
theorem x_lenD (T : Nm X.mg) (h : DR X e f) (hg : Gl X "len" := by rfl) (hs : starEach [e] X.env = (false, eval e X.env) :: starEach [] X.env := by rfl) (hpl : (backTo pos (starEach [] X.env)).any (·.1) = false := by rfl) : DE X (.Call (.Name "len" p) [e] [] pos) (fCall gLenD (fCons f fNil)) := d_callB cd_lenD hg T.len PySem.boot_len (dar_cons h dar_nil hs) (he := hs) (hpl := hpl)
theorem x_max2 (T : Nm X.mg) (hc : X.calm = true) (h : DR X e f) (h2 : DR X e2 f2) (hg : Gl X "max" := by rfl) (hs : starEach [e, e2] X.env = (false, eval e X.env) :: starEach [e2] X.env := by rfl) (hs2 : starEach [e2] X.env = (false, eval e2 X.env) :: starEach [] X.env := by rfl) (hpl : (backTo pos (starEach [e2] X.env)).any (·.1) = false := by rfl) :
    DE X (.Call (.Name "max" p) [e, e2] [] pos) (fCall gMax2 (fCons f (fCons f2 fNil))) := d_callB (cd_max2 hc) hg T.max boot_max (dar_cons h (dar_cons h2 dar_nil hs2) hs) (he := hs) (hpl := hpl)
theorem x_min2 (T : Nm X.mg) (hc : X.calm = true) (h : DR X e f) (h2 : DR X e2 f2) (hg : Gl X "min" := by rfl) (hs : starEach [e, e2] X.env = (false, eval e X.env) :: starEach [e2] X.env := by rfl) (hs2 : starEach [e2] X.env = (false, eval e2 X.env) :: starEach [] X.env := by rfl) (hpl : (backTo pos (starEach [e2] X.env)).any (·.1) = false := by rfl) :
    DE X (.Call (.Name "min" p) [e, e2] [] pos) (fCall gMin2 (fCons f (fCons f2 fNil))) := d_callB (cd_min2 hc) hg T.min boot_min (dar_cons h (dar_cons h2 dar_nil hs2) hs) (he := hs) (hpl := hpl)
theorem x_max (T : Nm X.mg) (hc : X.calm = true) (hu : X.A.units + 64 < cLine) (h : DR X e f) (hg : Gl X "max" := by rfl) (hs : starEach [e] X.env = (false, eval e X.env) :: starEach [] X.env := by rfl) (hpl : (backTo pos (starEach [] X.env)).any (·.1) = false := by rfl) :
    DE X (.Call (.Name "max" p) [e] [] pos) (fCall (gBest fun y a => PySem.W.dataLt a y) (fCons f fNil)) := d_callB (cd_max hc hu) hg T.max boot_max (dar_cons h dar_nil hs) (he := hs) (hpl := hpl)
theorem x_min (T : Nm X.mg) (hc : X.calm = true) (hu : X.A.units + 64 < cLine) (h : DR X e f) (hg : Gl X "min" := by rfl) (hs : starEach [e] X.env = (false, eval e X.env) :: starEach [] X.env := by rfl) (hpl : (backTo pos (starEach [] X.env)).any (·.1) = false := by rfl) :
    DE X (.Call (.Name "min" p) [e] [] pos) (fCall (gBest PySem.W.dataLt) (fCons f fNil)) := d_callB (cd_min hc hu) hg T.min boot_min (dar_cons h dar_nil hs) (he := hs) (hpl := hpl)
theorem x_sorted (T : Nm X.mg) (hu : X.A.units + 64 < cLine) (h : DR X e f) (hg : Gl X "sorted" := by rfl) (hs : starEach [e] X.env = (false, eval e X.env) :: starEach [] X.env := by rfl) (hpl : (backTo pos (starEach [] X.env)).any (·.1) = false := by rfl) :
    DN X (.Call (.Name "sorted" p) [e] [] pos) (fCall gSorted (fCons f fNil)) := d_callBN (cn_sorted hu) hg T.sorted boot_sorted (dar_cons h dar_nil hs) (he := hs) (hpl := hpl)
theorem x_list (T : Nm X.mg) (h : DR X e f) (hg : Gl X "list" := by rfl) (hs : starEach [e] X.env = (false, eval e X.env) :: starEach [] X.env := by rfl) (hpl : (backTo pos (starEach [] X.env)).any (·.1) = false := by rfl) :
    DN X (.Call (.Name "list" p) [e] [] pos) (fCall gLstOf (fCons f fNil)) := d_callTyN cn_list hg T.list PyProof.Rows.boot_list (dar_cons h dar_nil hs) (he := hs) (hpl := hpl)
theorem x_listD (T : Nm X.mg) (hc : X.calm = true) (h : DR X e f) (hg : Gl X "list" := by rfl) (hs : starEach [e] X.env = (false, eval e X.env) :: starEach [] X.env := by rfl) (hpl : (backTo pos (starEach [] X.env)).any (·.1) = false := by rfl) :
    DN X (.Call (.Name "list" p) [e] [] pos) (fCall gLstD (fCons f fNil)) := d_callTyN (cn_listD hc) hg T.list PyProof.Rows.boot_list (dar_cons h dar_nil hs) (he := hs) (hpl := hpl)
theorem x_tuple (T : Nm X.mg) (h : DR X e f) (hg : Gl X "tuple" := by rfl) (hs : starEach [e] X.env = (false, eval e X.env) :: starEach [] X.env := by rfl) (hpl : (backTo pos (starEach [] X.env)).any (·.1) = false := by rfl) :
    DE X (.Call (.Name "tuple" p) [e] [] pos) (fCall gTupOf (fCons f fNil)) := d_callTy cd_tuple hg T.tuple PyProof.Rows.boot_tuple (dar_cons h dar_nil hs) (he := hs) (hpl := hpl)
theorem x_isI (T : Nm X.mg) {p2 : Pos} (h : DR X e f) (hg : Gl X "isinstance" := by rfl) (hg2 : Gl X "int" := by rfl) (he : starEach [e, .Name "int" p2] X.env = (false, eval e X.env) :: starEach [.Name "int" p2] X.env := by rfl) (he2 : starEach [.Name "int" p2] X.env = (false, eval (.Name "int" p2) X.env) :: starEach [] X.env := by rfl) (hpl : (backTo pos (starEach [.Name "int" p2] X.env)).any (·.1) = false := by rfl) :
    DE X (.Call (.Name "isinstance" p) [e, .Name "int" p2] [] pos) (fIsi "int" f) := d_isi h hg T.isinstance boot_isinstance hg2 T.int PyProof.Rows.boot_int (.ty _) (he := he) (he2 := he2) (hpl := hpl)
theorem x_isB (T : Nm X.mg) {p2 : Pos} (h : DR X e f) (hg : Gl X "isinstance" := by rfl) (hg2 : Gl X "bool" := by rfl) (he : starEach [e, .Name "bool" p2] X.env = (false, eval e X.env) :: starEach [.Name "bool" p2] X.env := by rfl) (he2 : starEach [.Name "bool" p2] X.env = (false, eval (.Name "bool" p2) X.env) :: starEach [] X.env := by rfl) (hpl : (backTo pos (starEach [.Name "bool" p2] X.env)).any (·.1) = false := by rfl) :
    DE X (.Call (.Name "isinstance" p) [e, .Name "bool" p2] [] pos) (fIsi "bool" f) := d_isi h hg T.isinstance boot_isinstance hg2 T.bool PyProof.Rows.boot_bool (.ty _) (he := he) (he2 := he2) (hpl := hpl)
theorem x_isT (T : Nm X.mg) {p2 : Pos} (h : DR X e f) (hg : Gl X "isinstance" := by rfl) (hg2 : Gl X "tuple" := by rfl) (he : starEach [e, .Name "tuple" p2] X.env = (false, eval e X.env) :: starEach [.Name "tuple" p2] X.env := by rfl) (he2 : starEach [.Name "tuple" p2] X.env = (false, eval (.Name "tuple" p2) X.env) :: starEach [] X.env := by rfl) (hpl : (backTo pos (starEach [.Name "tuple" p2] X.env)).any (·.1) = false := by rfl) :
    DE X (.Call (.Name "isinstance" p) [e, .Name "tuple" p2] [] pos) (fIsi "tuple" f) := d_isi h hg T.isinstance boot_isinstance hg2 T.tuple PyProof.Rows.boot_tuple (.ty _) (he := he) (he2 := he2) (hpl := hpl)
theorem x_isS (T : Nm X.mg) {p2 : Pos} (h : DR X e f) (hg : Gl X "isinstance" := by rfl) (hg2 : Gl X "str" := by rfl) (he : starEach [e, .Name "str" p2] X.env = (false, eval e X.env) :: starEach [.Name "str" p2] X.env := by rfl) (he2 : starEach [.Name "str" p2] X.env = (false, eval (.Name "str" p2) X.env) :: starEach [] X.env := by rfl) (hpl : (backTo pos (starEach [.Name "str" p2] X.env)).any (·.1) = false := by rfl) :
    DE X (.Call (.Name "isinstance" p) [e, .Name "str" p2] [] pos) (fIsi "str" f) := d_isi h hg T.isinstance boot_isinstance hg2 T.str PyProof.Rows.boot_str (.ty _) (he := he) (he2 := he2) (hpl := hpl)
theorem x_rules (C : Cs X.K X.mg) (hg : Gl X "SHELF_RULES" := by rfl) : DE X (.Name "SHELF_RULES" pos) (fC (.tup [.str "eldest", .str "lately", .str "newest", .str "seldom", .str "best"])) :=
  d_glob hg C.rules (v := .ref C.aR) rfl (fun H => .tup (C.rulesT H) (.cons (.str _) (.cons (.str _) (.cons (.str _) (.cons (.str _) (.cons (.str _) .nil))))))
theorem x_str {x : Str} {y : Str} {t : Tok} (hm : X.mg x = some (.str y t)) (hg : Gl X x := by rfl) (hdb : (x == ("__debug__" : Str)) = false := by decide) : DE X (.Name x pos) (fC (.str y)) := d_glob hg hm (v := .str y) ⟨_, rfl⟩ (fun H => .str _) hdb
theorem x_int {x : Str} {i : Int} {t : Tok} (hm : X.mg x = some (.int i t)) (hg : Gl X x := by rfl) (hdb : (x == ("__debug__" : Str)) = false := by decide) : DE X (.Name x pos) (fC (.int i)) := d_glob hg hm (v := .int i) ⟨_, rfl⟩ (fun H => .int _) hdb
end
end Deep
set_option maxRecDepth 100000
set_option maxHeartbeats 4000000
namespace Deep
open PySem PySem.Spec PyProof.Rows L2
abbrev sIsCount : Stmt := topS 15
abbrev nIsCount : List Str := ["thing", "low", "high"]
theorem scIsCount : FnScope nIsCount ["thing", "low", "high"] (defScope sIsCount) := ⟨rfl, rfl, rfl, by decide +kernel, rfl, by decide +kernel, by decide +kernel⟩
def pIsCount : { g : DSt → Option Out // ∀ {P : Program} {w : World} {K : PySem.W.Frag} {mg : Str → Option Value} {base : Heap} {fa : Addr} {fd : FuncData}, Fun K "is_count" "is_count" sIsCount fa fd → mg "is_count" = some (.ref fa) → Binds K fd ["thing", "low", "high"] [] → Nm mg → OwnF P w K mg base "is_count" 1 3 (runD 3 g) } :=
  ⟨_, fun F hm b T => own_mk (k := 0) F hm b scIsCount fun cdv A outer s H E hr =>
    (ds_one (ds_ret (d_and (x_isI T (dvR 0)) (d_and (d_not (x_isB T (dvR 0))) (d_one (d_chain od_le od_le (dvR 1) (dvR 0) (dvR 2)))))))⟩

abbrev sNeedShelf : Stmt := topS 16
abbrev nNeedShelf : List Str := ["thing"]
theorem scNeedShelf : FnScope nNeedShelf ["thing"] (defScope sNeedShelf) := ⟨rfl, rfl, rfl, by decide +kernel, rfl, by decide +kernel, by decide +kernel⟩
def pNeedShelf : { g : DSt → Option Out // ∀ {P : Program} {w : World} {K : PySem.W.Frag} {mg : Str → Option Value} {base : Heap} {fa : Addr} {fd : FuncData}, Fun K "need_shelf" "need_shelf" sNeedShelf fa fd → mg "need_shelf" = some (.ref fa) → Binds K fd ["thing"] [] → ∀ (C : Cs K mg), Nm mg → OwnF P w K mg base "is_count" 1 3 (runD 3 pIsCount.1) → OwnF P w K mg base "need_shelf" 2 1 (runD 1 g) } :=
  ⟨_, fun F hm b C T oIsCount => own_mk (k := 1) F hm b scNeedShelf fun cdv A outer s H E hr =>
    (ds_cons (ds_if (dw_pt (dw_or (dt_not (dt_val (x_isT T (dvR 0)))) (dw_or (dt_cmp (od_ne hr.units) (de_dr (x_len T (dvR 0))) (de_dr (x_int C.many))) (dw_or1 (dt_not (dt_val (x_isS T (de_dr (d_ix (dvR 0) (de_dr d_int)))))))))) dss_never ds_nil)
      (ds_one (ds_if (dw_pt (dw_or (dt_cmp od_notIn (de_dr (d_ix (dvR 0) (de_dr d_int))) (de_dr (x_rules C))) (dw_or1 (dt_not (dt_val (d_own oIsCount hr (da_cons (d_ix (dvR 0) (de_dr d_int)) (da_cons d_int (da_cons (x_int C.room) da_nil))))))))) dss_never ds_nil)))⟩

abbrev sBegin : Stmt := topS 17
abbrev nBegin : List Str := ["kind"]
theorem scBegin : FnScope nBegin ["kind"] (defScope sBegin) := ⟨rfl, rfl, rfl, by decide +kernel, rfl, by decide +kernel, by decide +kernel⟩
def pBegin : { g : DSt → Option Out // ∀ {P : Program} {w : World} {K : PySem.W.Frag} {mg : Str → Option Value} {base : Heap} {fa : Addr} {fd : FuncData}, Fun K "shelf_begin" "shelf_begin" sBegin fa fd → mg "shelf_begin" = some (.ref fa) → Binds K fd ["kind"] [] → ∀ (C : Cs K mg), OwnF P w K mg base "shelf_begin" 1 1 (runD 1 g) } :=
  ⟨_, fun F hm b C => own_mk (k := 0) F hm b scBegin fun cdv A outer s H E hr =>
    (ds_one (ds_ret (d_if (dt_cmp (od_eq hr.units) (de_dr (d_ix (dvR 0) (de_dr d_int))) (de_dr (x_str C.best))) (d_tup (da_cons (d_tup (da_cons (d_tup da_nil) (da_cons d_int da_nil))) da_nil)) (d_tup da_nil))))⟩

abbrev sPlain : Stmt := topS 18
abbrev nPlain : List Str := ["kind", "state", "asked", "rule", "room", "rest", "thing"]
theorem scPlain : FnScope nPlain ["kind", "state", "asked"] (defScope sPlain) := ⟨rfl, rfl, rfl, by decide +kernel, rfl, by decide +kernel, by decide +kernel⟩
def pPlain : { g : DSt → Option Out // ∀ {P : Program} {w : World} {K : PySem.W.Frag} {mg : Str → Option Value} {base : Heap} {fa : Addr} {fd : FuncData}, Fun K "shelf_next_plain" "shelf_next_plain" sPlain fa fd → mg "shelf_next_plain" = some (.ref fa) → Binds K fd ["kind", "state", "asked"] [] → ∀ (C : Cs K mg), Nm mg → OwnF P w K mg base "shelf_next_plain" 1 3 (runD 7 g) } :=
  ⟨_, fun F hm b C T => own_mk (k := 0) F hm b scPlain fun cdv A outer s H E hr =>
    (ds_cons (ds_asg (dv 0) (dgn_dg (dg_tup rfl (dgs_cons (dg_name (i := 3) scPlain.nd) (dgs_cons (dg_name (i := 4) scPlain.nd) dgs_nil)) gs_len2)))
      (ds_cons (ds_if (dt_cmp od_in (dvR 2) (dvR 1)) (ds_cons (ds_set (i := 5) scPlain.nd (x_tuple T (dn_dr (d_lc rfl scPlain.nd ⟨blkOk_by (N := nPlain) (sc := defScope sPlain) (own := [("thing", 6)]) (by decide +kernel), (di_tup (dv 1)), fun _ _ _ _ _ => (dg_name (i := 6) scPlain.nd), fun _ _ _ _ _ => can_ts1 ((dt_cmp (od_ne hr.units) (dvR 6) (dvR 2))), fun _ _ _ _ _ => (dv 6)⟩))))
      (ds_one (ds_ret (d_tup (da_cons (d_if (dt_cmp (od_eq hr.units) (dvR 3) (de_dr (x_str C.lately))) (d_bin od_catT (dvR 5) (de_dr (d_tup (da_cons (dv 2) da_nil)))) (dv 1)) (da_cons d_bl da_nil)))))) ds_nil)
      (ds_cons (ds_if (dt_cmp od_lt (de_dr (x_len T (dvR 1))) (dvR 4)) (ds_one (ds_ret (d_tup (da_cons (d_bin od_catT (dvR 1) (de_dr (d_tup (da_cons (dv 2) da_nil)))) (da_cons d_bl da_nil))))) ds_nil)
      (ds_one (ds_ret (d_tup (da_cons (d_bin od_catT (de_dr (d_if (dt_cmp (od_eq hr.units) (dvR 3) (de_dr (x_str C.newest))) (d_slT (dv 1) do_none (do_some (d_neg d_int))) (d_slT (dv 1) (do_some d_int) do_none))) (de_dr (d_tup (da_cons (dv 2) da_nil)))) (da_cons d_bl da_nil))))))))⟩

abbrev sSeldom : Stmt := topS 19
abbrev nSeldom : List Str := ["kind", "state", "asked", "later", "least", "at", "thing", "many"]
theorem scSeldom : FnScope nSeldom ["kind", "state", "asked"] (defScope sSeldom) := ⟨rfl, rfl, rfl, by decide +kernel, rfl, by decide +kernel, by decide +kernel⟩
def pSeldom : { g : DSt → Option Out // ∀ {P : Program} {w : World} {K : PySem.W.Frag} {mg : Str → Option Value} {base : Heap} {fa : Addr} {fd : FuncData}, Fun K "shelf_next_seldom" "shelf_next_seldom" sSeldom fa fd → mg "shelf_next_seldom" = some (.ref fa) → Binds K fd ["kind", "state", "asked"] [] → ∀ (C : Cs K mg), Nm mg → OwnF P w K mg base "shelf_next_seldom" 1 3 (runD 8 g) } :=
  ⟨_, fun F hm b C T => own_mk (k := 0) F hm b scSeldom fun cdv A outer s H E hr =>
    (ds_cons (ds_if (dt_cmp od_in (dvR 2) (dn_dr (d_lc rfl scSeldom.nd ⟨blkOk_by (N := nSeldom) (sc := defScope sSeldom) (own := [("thing", 6), ("many", 7)]) (by decide +kernel), (di_tup (dv 1)), fun _ _ _ _ _ => (dg_tup rfl (dgs_cons (dg_name (i := 6) scSeldom.nd) (dgs_cons (dg_name (i := 7) scSeldom.nd) dgs_nil)) gs_len2), fun _ _ _ _ _ => can_ts0, fun _ _ _ _ _ => (dv 6)⟩))) (ds_cons (ds_setLc (i := 3) rfl scSeldom.nd ⟨blkOk_by (N := nSeldom) (sc := defScope sSeldom) (own := [("thing", 6), ("many", 7)]) (by decide +kernel), (di_tup (dv 1)), fun _ _ _ _ _ => (dg_tup rfl (dgs_cons (dg_name (i := 6) scSeldom.nd) (dgs_cons (dg_name (i := 7) scSeldom.nd) dgs_nil)) gs_len2), fun _ _ _ _ _ => can_ts0, fun _ _ _ _ _ => (d_tup (da_cons (dv 6) (da_cons (x_min2 T rfl (de_dr (x_int C.seen)) (de_dr (d_bin od_add (dvR 7) (de_dr (d_if (dt_cmp (od_eq hr.units) (dvR 6) (dvR 2)) d_int d_int))))) da_nil)))⟩)
      (ds_one (ds_ret (d_tup (da_cons (x_tuple T (dvR 3)) (da_cons d_bl da_nil)))))) ds_nil)
      (ds_cons (ds_if (dt_cmp (od_eq hr.units) (de_dr (x_len T (dvR 1))) (de_dr (d_ix (dvR 0) (de_dr d_int)))) (ds_cons (ds_set (i := 4) scSeldom.nd (x_min T rfl hr.units (dn_dr (d_lc rfl scSeldom.nd ⟨blkOk_by (N := nSeldom) (sc := defScope sSeldom) (own := [("thing", 6), ("many", 7)]) (by decide +kernel), (di_tup (dv 1)), fun _ _ _ _ _ => (dg_tup rfl (dgs_cons (dg_name (i := 6) scSeldom.nd) (dgs_cons (dg_name (i := 7) scSeldom.nd) dgs_nil)) gs_len2), fun _ _ _ _ _ => can_ts0, fun _ _ _ _ _ => (dv 7)⟩))))
      (ds_cons (ds_set (i := 5) scSeldom.nd (d_index (dn_dr (d_lc rfl scSeldom.nd ⟨blkOk_by (N := nSeldom) (sc := defScope sSeldom) (own := [("thing", 6), ("many", 7)]) (by decide +kernel), (di_tup (dv 1)), fun _ _ _ _ _ => (dg_tup rfl (dgs_cons (dg_name (i := 6) scSeldom.nd) (dgs_cons (dg_name (i := 7) scSeldom.nd) dgs_nil)) gs_len2), fun _ _ _ _ _ => can_ts0, fun _ _ _ _ _ => (dv 7)⟩)) (dvR 4)))
      (ds_one (ds_set (i := 1) scSeldom.nd (d_bin od_catT (de_dr (d_slT (dv 1) do_none (do_some (dv 5)))) (de_dr (d_slT (dv 1) (do_some (d_bin od_add (dvR 5) (de_dr d_int))) do_none))))))) ds_nil)
      (ds_one (ds_ret (d_tup (da_cons (d_bin od_catT (dvR 1) (de_dr (d_tup (da_cons (d_tup (da_cons (dv 2) (da_cons d_int da_nil))) da_nil)))) (da_cons d_bl da_nil)))))))⟩

abbrev sLots : Stmt := topS 20
abbrev nLots : List Str := ["kind", "lot", "asked", "found", "at"]
theorem scLots : FnScope nLots ["kind", "lot", "asked"] (defScope sLots) := ⟨rfl, rfl, rfl, by decide +kernel, rfl, by decide +kernel, by decide +kernel⟩
def pLots : { g : DSt → Option Out // ∀ {P : Program} {w : World} {K : PySem.W.Frag} {mg : Str → Option Value} {base : Heap} {fa : Addr} {fd : FuncData}, Fun K "shelf_lots_behind" "shelf_lots_behind" sLots fa fd → mg "shelf_lots_behind" = some (.ref fa) → Binds K fd ["kind", "lot", "asked"] [] → Nm mg → OwnF P w K mg base "shelf_lots_behind" 1 3 (runD 5 g) } :=
  ⟨_, fun F hm b T => own_mk (k := 0) F hm b scLots fun cdv A outer s H E hr =>
    (ds_cons (ds_if (dt_cmp od_in (dvR 2) (dvR 1)) (ds_one (ds_ret (dn_de (d_lst (da_cons (dv 1) da_nil))))) ds_nil)
      (ds_cons (ds_if (dt_cmp od_lt (de_dr (x_len T (dvR 1))) (de_dr (d_ix (dvR 0) (de_dr d_int)))) (ds_one (ds_ret (dn_de (d_lst (da_cons (x_tuple T (dn_dr (x_sorted T hr.units (de_dr (d_bin od_catT (dvR 1) (de_dr (d_tup (da_cons (dv 2) da_nil)))))))) da_nil))))) ds_nil)
      (ds_cons (ds_setN (i := 3) scLots.nd (d_lst da_nil))
      (ds_cons (ds_for rfl (di_rng1 (x_len T (dvR 1)) rfl T.range) (dgn_dg (dg_name (i := 4) scLots.nd)) (ds_one (ds_app 3 (x_tuple T (dn_dr (x_sorted T hr.units (de_dr (d_bin od_catT (de_dr (d_bin od_catT (de_dr (d_slT (dv 1) do_none (do_some (dv 4)))) (de_dr (d_slT (dv 1) (do_some (d_bin od_add (dvR 4) (de_dr d_int))) do_none)))) (de_dr (d_tup (da_cons (dv 2) da_nil)))))))))))
      (ds_one (ds_fz 3 (ds_ret (dv 3))))))))⟩

abbrev sBest : Stmt := topS 21
abbrev nBest : List Str := ["kind", "state", "asked", "known", "lot", "behind", "gain", "goal", "most", "near"]
theorem scBest : FnScope nBest ["kind", "state", "asked"] (defScope sBest) := ⟨rfl, rfl, rfl, by decide +kernel, rfl, by decide +kernel, by decide +kernel⟩
def pBest : { g : DSt → Option Out // ∀ {P : Program} {w : World} {K : PySem.W.Frag} {mg : Str → Option Value} {base : Heap} {fa : Addr} {fd : FuncData}, Fun K "shelf_next_best" "shelf_next_best" sBest fa fd → mg "shelf_next_best" = some (.ref fa) → Binds K fd ["kind", "state", "asked"] [] → Nm mg → OwnF P w K mg base "shelf_lots_behind" 1 3 (runD 5 pLots.1) → OwnF P w K mg base "shelf_next_best" 2 3 (runD 10 g) } :=
  ⟨_, fun F hm b T oLots => own_mk (k := 1) F hm b scBest fun cdv A outer s H E hr =>
    (ds_cons (ds_setN (i := 3) scBest.nd d_new)
      (ds_cons (ds_for rfl (di_tup (dv 1)) (dgn_dg (dg_tup rfl (dgs_cons (dg_name (i := 4) scBest.nd) (dgs_cons (dg_name (i := 5) scBest.nd) dgs_nil)) gs_len2)) (ds_cons (ds_set (i := 6) scBest.nd (d_if (dt_cmp od_in (dvR 2) (dvR 4)) d_int d_int))
      (ds_one (ds_for rfl (di_list (d_own oLots hr (da_cons (dv 0) (da_cons (dv 4) (da_cons (dv 2) da_nil))))) (dgn_dg (dg_name (i := 7) scBest.nd)) (ds_one (ds_put 3 hr.units (dvR 7) (x_max2 T rfl (de_dr (d_getOr hr.units (dvR 3) (dvR 7) (d_bin od_sub (dvR 6) (dvR 5)))) (de_dr (d_bin od_sub (dvR 6) (dvR 5))))))))))
      (ds_cons (ds_fz 3 (ds_set (i := 8) scBest.nd (x_max T rfl hr.units (dn_dr (d_lc rfl scBest.nd ⟨blkOk_by (N := nBest) (sc := defScope sBest) (own := [("goal", 7)]) (by decide +kernel), (di_keys (dv 3)), fun _ _ _ _ _ => (dg_name (i := 7) scBest.nd), fun _ _ _ _ _ => can_ts0, fun _ _ _ _ _ => (d_get hr.units (dvR 3) (dvR 7))⟩)))))
      (ds_cons (ds_setLc (i := 9) rfl scBest.nd ⟨blkOk_by (N := nBest) (sc := defScope sBest) (own := [("goal", 7)]) (by decide +kernel), (di_keys (dv 3)), fun _ _ _ _ _ => (dg_name (i := 7) scBest.nd), fun _ _ _ _ _ => can_ts1 ((dt_cmp od_lt (de_dr (d_bin od_sub (dvR 8) (de_dr (d_get hr.units (dvR 3) (dvR 7))))) (de_dr (d_ix (dvR 0) (de_dr d_int))))), fun _ _ _ _ _ => (d_tup (da_cons (dv 7) (da_cons (d_bin od_sub (dvR 8) (de_dr (d_get hr.units (dvR 3) (dvR 7)))) da_nil)))⟩)
      (ds_one (ds_ret (d_tup (da_cons (x_tuple T (dn_dr (x_sorted T hr.units (dvR 9)))) (da_cons (d_cmp (od_eq hr.units) (dvR 8) (de_dr d_int)) da_nil)))))))))⟩

abbrev sNext : Stmt := topS 22
abbrev nNext : List Str := ["kind", "state", "asked"]
theorem scNext : FnScope nNext ["kind", "state", "asked"] (defScope sNext) := ⟨rfl, rfl, rfl, by decide +kernel, rfl, by decide +kernel, by decide +kernel⟩
def pNext : { g : DSt → Option Out // ∀ {P : Program} {w : World} {K : PySem.W.Frag} {mg : Str → Option Value} {base : Heap} {fa : Addr} {fd : FuncData}, Fun K "shelf_next" "shelf_next" sNext fa fd → mg "shelf_next" = some (.ref fa) → Binds K fd ["kind", "state", "asked"] [] → ∀ (C : Cs K mg), OwnF P w K mg base "shelf_next_plain" 1 3 (runD 7 pPlain.1) → OwnF P w K mg base "shelf_next_seldom" 1 3 (runD 8 pSeldom.1) → OwnF P w K mg base "shelf_next_best" 2 3 (runD 10 pBest.1) → OwnF P w K mg base "shelf_next" 3 3 (runD 3 g) } :=
  ⟨_, fun F hm b C oPlain oSeldom oBest => own_mk (k := 2) F hm b scNext fun cdv A outer s H E hr =>
    (ds_cons (ds_if (dt_cmp (od_eq hr.units) (de_dr (d_ix (dvR 0) (de_dr d_int))) (de_dr (x_str C.seldom))) (ds_one (ds_ret (d_own oSeldom hr (da_cons (dv 0) (da_cons (dv 1) (da_cons (dv 2) da_nil)))))) ds_nil)
      (ds_cons (ds_if (dt_cmp (od_eq hr.units) (de_dr (d_ix (dvR 0) (de_dr d_int))) (de_dr (x_str C.best))) (ds_one (ds_ret (d_own oBest hr (da_cons (dv 0) (da_cons (dv 1) (da_cons (dv 2) da_nil)))))) ds_nil)
      (ds_one (ds_ret (d_own oPlain hr (da_cons (dv 0) (da_cons (dv 1) (da_cons (dv 2) da_nil))))))))⟩
end Deep
set_option maxRecDepth 100000
set_option maxHeartbeats 4000000
namespace Deep
open PySem PySem.Spec PyProof.Rows L2
abbrev sNeedThings : Stmt := topS 26
abbrev nNeedThings : List Str := ["thing"]
theorem scNeedThings : FnScope nNeedThings ["thing"] (defScope sNeedThings) := ⟨rfl, rfl, rfl, by decide +kernel, rfl, by decide +kernel, by decide +kernel⟩
def pNeedThings : { g : DSt → Option Out // ∀ {P : Program} {w : World} {K : PySem.W.Frag} {mg : Str → Option Value} {base : Heap} {fa : Addr} {fd : FuncData}, Fun K "need_things" "need_things" sNeedThings fa fd → mg "need_things" = some (.ref fa) → Binds K fd ["thing"] [] → ∀ (C : Cs K mg), OwnF P w K mg base "is_count" 1 3 (runD 3 pIsCount.1) → OwnF P w K mg base "need_things" 2 1 (runD 1 g) } :=
  ⟨_, fun F hm b C oIsCount => own_mk (k := 1) F hm b scNeedThings fun cdv A outer s H E hr =>
    (ds_one (ds_if (dt_not (dt_val (d_own oIsCount hr (da_cons (dv 0) (da_cons d_int (da_cons (x_int C.things) da_nil)))))) dss_never ds_nil))⟩

abbrev sLBegin : Stmt := topS 27
abbrev nLBegin : List Str := ["one", "other"]
theorem scLBegin : FnScope nLBegin ["one", "other"] (defScope sLBegin) := ⟨rfl, rfl, rfl, by decide +kernel, rfl, by decide +kernel, by decide +kernel⟩
def pLBegin : { g : DSt → Option Out // ∀ {P : Program} {w : World} {K : PySem.W.Frag} {mg : Str → Option Value} {base : Heap} {fa : Addr} {fd : FuncData}, Fun K "lead_begin" "lead_begin" sLBegin fa fd → mg "lead_begin" = some (.ref fa) → Binds K fd ["one", "other"] [] → OwnF P w K mg base "shelf_begin" 1 1 (runD 1 pBegin.1) → OwnF P w K mg base "lead_begin" 2 2 (runD 2 g) } :=
  ⟨_, fun F hm b oBegin => own_mk (k := 1) F hm b scLBegin fun cdv A outer s H E hr =>
    (ds_one (ds_ret (d_tup (da_cons (d_own oBegin hr (da_cons (dv 0) da_nil)) (da_cons (d_own oBegin hr (da_cons (dv 1) da_nil)) da_nil)))))⟩

abbrev sLNext : Stmt := topS 28
abbrev nLNext : List Str := ["one", "other", "pair", "asked", "mine", "yours"]
theorem scLNext : FnScope nLNext ["one", "other", "pair", "asked"] (defScope sLNext) := ⟨rfl, rfl, rfl, by decide +kernel, rfl, by decide +kernel, by decide +kernel⟩
def pLNext : { g : DSt → Option Out // ∀ {P : Program} {w : World} {K : PySem.W.Frag} {mg : Str → Option Value} {base : Heap} {fa : Addr} {fd : FuncData}, Fun K "lead_next" "lead_next" sLNext fa fd → mg "lead_next" = some (.ref fa) → Binds K fd ["one", "other", "pair", "asked"] [] → OwnF P w K mg base "shelf_next" 3 3 (runD 3 pNext.1) → OwnF P w K mg base "lead_next" 4 4 (runD 6 g) } :=
  ⟨_, fun F hm b oNext => own_mk (k := 3) F hm b scLNext fun cdv A outer s H E hr =>
    (ds_cons (ds_par2 4 5 rfl scLNext.nd (dvs_im (d_own oNext hr (da_cons (dv 0) (da_cons (d_ix (dvR 2) (de_dr d_int)) (da_cons (dv 3) da_nil)))) (dvs_im (d_own oNext hr (da_cons (dv 1) (da_cons (d_ix (dvR 2) (de_dr d_int)) (da_cons (dv 3) da_nil)))) dvs_nil)))
      (ds_one (ds_ret (d_tup (da_cons (d_tup (da_cons (d_ix (dvR 4) (de_dr d_int)) (da_cons (d_ix (dvR 5) (de_dr d_int)) da_nil))) (da_cons (d_bin od_sub (de_dr (d_if (dt_val (d_ix (dvR 5) (de_dr d_int))) d_int d_int)) (de_dr (d_if (dt_val (d_ix (dvR 4) (de_dr d_int))) d_int d_int))) da_nil))))))⟩

abbrev sGraph : Stmt := topS 29
abbrev nGraph : List Str := ["one", "other", "things", "begin", "found", "line", "known", "pair", "goal", "more", "asked"]
theorem scGraph : FnScope nGraph ["one", "other", "things"] (defScope sGraph) := ⟨rfl, rfl, rfl, by decide +kernel, rfl, by decide +kernel, by decide +kernel⟩
def pGraph : { g : DSt → Option Out // ∀ {P : Program} {w : World} {K : PySem.W.Frag} {mg : Str → Option Value} {base : Heap} {fa : Addr} {fd : FuncData}, Fun K "lead_graph" "lead_graph" sGraph fa fd → mg "lead_graph" = some (.ref fa) → Binds K fd ["one", "other", "things"] [] → ∀ (C : Cs K mg), Nm mg → OwnF P w K mg base "lead_begin" 2 2 (runD 2 pLBegin.1) → OwnF P w K mg base "lead_next" 4 4 (runD 6 pLNext.1) → OwnF P w K mg base "lead_graph" 5 3 (runD 11 g) } :=
  ⟨_, fun F hm b C T oLBegin oLNext => own_mk (k := 4) F hm b scGraph fun cdv A outer s H E hr =>
    (ds_cons (ds_set (i := 3) scGraph.nd (d_own oLBegin hr (da_cons (dv 0) (da_cons (dv 1) da_nil))))
      (ds_cons (ds_par2 4 5 rfl scGraph.nd (dvs_mu d_new (dvs_mu (d_lst (da_cons (dv 3) da_nil)) dvs_nil)))
      (ds_cons (ds_setN (i := 6) scGraph.nd (d_disp1 hr.units (dvR 3) d_bl))
      (ds_cons (ds_while 4000 (dt_cmp (od_ne hr.units) (dvR 5) (dn_dr (d_lst da_nil))) (ds_cons (ds_pop 7 5 scGraph.nd)
      (ds_cons (ds_put 4 hr.units (dvR 7) (dn_de (d_lc rfl scGraph.nd ⟨blkOk_by (N := nGraph) (sc := defScope sGraph) (own := [("asked", 10)]) (by decide +kernel), (di_rng1 (dv 2) rfl T.range), fun _ _ _ _ _ => (dg_name (i := 10) scGraph.nd), fun _ _ _ _ _ => can_ts0, fun _ _ _ _ _ => (d_own oLNext hr (da_cons (dv 0) (da_cons (dv 1) (da_cons (dv 7) (da_cons (dv 10) da_nil)))))⟩)))
      (ds_cons (ds_for rfl (di_list (d_get hr.units (dvR 4) (dvR 7))) (dgn_dg (dg_tup rfl (dgs_cons (dg_name (i := 8) scGraph.nd) (dgs_cons (dg_name (i := 9) scGraph.nd) dgs_nil)) gs_len2)) (ds_one (ds_if (dt_cmp (od_notInD hr.units) (dvR 8) (dvR 6)) (ds_cons (ds_put 6 hr.units (dvR 8) d_bl)
      (ds_one (ds_app 5 (dv 8)))) ds_nil)))
      (ds_one (ds_if (dt_cmp od_gt (de_dr (x_lenD T (dvR 6))) (de_dr (x_int C.states))) dss_never ds_nil))))))
      (ds_one (ds_fz 4 (ds_ret (dv 4))))))))⟩

abbrev sRing : Stmt := topS 30
abbrev nRing : List Str := ["aheads", "done", "line", "here", "pair", "found", "at", "some"]
theorem scRing : FnScope nRing ["aheads"] (defScope sRing) := ⟨rfl, rfl, rfl, by decide +kernel, rfl, by decide +kernel, by decide +kernel⟩
def pRing : { g : DSt → Option Out // ∀ {P : Program} {w : World} {K : PySem.W.Frag} {mg : Str → Option Value} {base : Heap} {fa : Addr} {fd : FuncData}, Fun K "lead_ring" "lead_ring" sRing fa fd → mg "lead_ring" = some (.ref fa) → Binds K fd ["aheads"] [] → Nm mg → OwnF P w K mg base "lead_ring" 1 1 (runD 8 g) } :=
  ⟨_, fun F hm b T => own_mk (k := 0) F hm b scRing fun cdv A outer s H E hr =>
    (ds_cons (ds_setN (i := 1) scRing.nd d_new)
      (ds_cons (ds_for rfl (di_keys (dv 0)) (dgn_dg (dg_name (i := 4) scRing.nd)) (ds_cons (ds_par2 2 3 rfl scRing.nd (dvs_mu d_new (dvs_im (dv 4) dvs_nil)))
      (ds_cons (ds_while 4000 (dw_pt (dw_and (dt_cmp (od_inD hr.units) (dvR 3) (dvR 0)) (dw_and (dt_cmp (od_notInD hr.units) (dvR 3) (dvR 1)) (dw_and1 (dt_cmp (od_notInD hr.units) (dvR 3) (dvR 2)))))) (ds_cons (ds_put 2 hr.units (dvR 3) d_bl)
      (ds_one (ds_set (i := 3) scRing.nd (d_ix (de_dr (d_get hr.units (dvR 0) (dvR 3))) (de_dr d_int))))))
      (ds_cons (ds_if (dt_cmp (od_inD hr.units) (dvR 3) (dvR 2)) (ds_cons (ds_par2 5 6 rfl scRing.nd (dvs_mu (d_lst (da_cons (d_ix (de_dr (d_get hr.units (dvR 0) (dvR 3))) (de_dr d_int)) da_nil)) (dvs_im (d_ix (de_dr (d_get hr.units (dvR 0) (dvR 3))) (de_dr d_int)) dvs_nil)))
      (ds_cons (ds_while 4000 (dt_cmp (od_ne hr.units) (dvR 6) (dvR 3)) (ds_cons (ds_app 5 (d_ix (de_dr (d_get hr.units (dvR 0) (dvR 6))) (de_dr d_int)))
      (ds_one (ds_set (i := 6) scRing.nd (d_ix (de_dr (d_get hr.units (dvR 0) (dvR 6))) (de_dr d_int))))))
      (ds_one (ds_ret (d_tup (da_cons (dv 3) (da_cons (x_tuple T (dn_dr (d_rev (dvR 5)))) da_nil))))))) ds_nil)
      (ds_one (ds_fz 2 (ds_for rfl (di_keys (dv 2)) (dgn_dg (dg_name (i := 7) scRing.nd)) (ds_one (ds_put 1 hr.units (dvR 7) d_bl)))))))))
      (ds_one (ds_ret d_non))))⟩

abbrev sValues : Stmt := topS 31
abbrev nValues : List Str := ["graph", "begin", "values", "aheads", "row", "later", "pair", "asked", "goal", "more", "ring"]
theorem scValues : FnScope nValues ["graph", "begin"] (defScope sValues) := ⟨rfl, rfl, rfl, by decide +kernel, rfl, by decide +kernel, by decide +kernel⟩
def pValues : { g : DSt → Option Out // ∀ {P : Program} {w : World} {K : PySem.W.Frag} {mg : Str → Option Value} {base : Heap} {fa : Addr} {fd : FuncData}, Fun K "lead_values" "lead_values" sValues fa fd → mg "lead_values" = some (.ref fa) → Binds K fd ["graph", "begin"] [] → Nm mg → OwnF P w K mg base "lead_ring" 1 1 (runD 8 pRing.1) → OwnF P w K mg base "lead_values" 2 2 (runD 11 g) } :=
  ⟨_, fun F hm b T oRing => own_mk (k := 1) F hm b scValues fun cdv A outer s H E hr =>
    (ds_cons (ds_par3 2 3 4 rfl scValues.nd (dvs_mu (d_disp1 hr.units (dvR 1) d_int) (dvs_mu d_new (dvs_mu (d_lst (da_cons (dv 1) da_nil)) dvs_nil))))
      (ds_cons (ds_while 4000 (dt_cmp (od_ne hr.units) (dvR 4) (dn_dr (d_lst da_nil))) (ds_cons (ds_setN (i := 5) scValues.nd d_new)
      (ds_cons (ds_fz 4 (ds_for rfl (di_list (dv 4)) (dgn_dg (dg_name (i := 6) scValues.nd)) (ds_one (ds_for rfl (di_enum (d_get hr.units (dvR 0) (dvR 6)) rfl T.enumerate) (dgn_dg (dg_tup rfl (dgs_cons (dg_name (i := 7) scValues.nd) (dgs_cons (dg_tup rfl (dgs_cons (dg_name (i := 8) scValues.nd) (dgs_cons (dg_name (i := 9) scValues.nd) dgs_nil)) gs_len2) dgs_nil)) gs_len2)) (ds_one (ds_if (dw_pt (dw_or (dt_cmp (od_notInD hr.units) (dvR 8) (dvR 2)) (dw_or1 (dt_cmp od_lt (de_dr (d_get hr.units (dvR 2) (dvR 8))) (de_dr (d_bin od_add (de_dr (d_get hr.units (dvR 2) (dvR 6))) (dvR 9))))))) (ds_cons (ds_put 2 hr.units (dvR 8) (d_bin od_add (de_dr (d_get hr.units (dvR 2) (dvR 6))) (dvR 9)))
      (ds_cons (ds_put 3 hr.units (dvR 8) (d_tup (da_cons (dv 6) (da_cons (dv 7) da_nil))))
      (ds_one (ds_put 5 hr.units (dvR 8) d_bl)))) ds_nil))))))
      (ds_cons (ds_set (i := 10) scValues.nd (d_bor 3 (d_own oRing hr (da_cons (dv 3) da_nil))))
      (ds_cons (ds_if (dt_cmp od_notN (dvR 10) (de_dr d_non)) (ds_one (ds_fz 2 (ds_ret (d_tup (da_cons (dv 2) (da_cons (dv 10) da_nil)))))) ds_nil)
      (ds_one (ds_setN (i := 4) scValues.nd (x_listD T rfl (dvR 5)))))))))
      (ds_one (ds_fz 2 (ds_ret (d_tup (da_cons (dv 2) (da_cons d_non da_nil))))))))⟩

abbrev sAsked : Stmt := topS 32
abbrev nAsked : List Str := ["one", "other", "things"]
theorem scAsked : FnScope nAsked ["one", "other", "things"] (defScope sAsked) := ⟨rfl, rfl, rfl, by decide +kernel, rfl, by decide +kernel, by decide +kernel⟩
def pAsked : { g : DSt → Option Out // ∀ {P : Program} {w : World} {K : PySem.W.Frag} {mg : Str → Option Value} {base : Heap} {fa : Addr} {fd : FuncData}, Fun K "lead_asked" "lead_asked" sAsked fa fd → mg "lead_asked" = some (.ref fa) → Binds K fd ["one", "other", "things"] [] → OwnF P w K mg base "need_shelf" 2 1 (runD 1 pNeedShelf.1) → OwnF P w K mg base "need_things" 2 1 (runD 1 pNeedThings.1) → OwnF P w K mg base "lead_graph" 5 3 (runD 11 pGraph.1) → OwnF P w K mg base "lead_asked" 6 3 (runD 3 g) } :=
  ⟨_, fun F hm b oNeedShelf oNeedThings oGraph => own_mk (k := 5) F hm b scAsked fun cdv A outer s H E hr =>
    (ds_cons (ds_expr (d_own oNeedShelf hr (da_cons (dv 0) da_nil)))
      (ds_cons (ds_expr (d_own oNeedShelf hr (da_cons (dv 1) da_nil)))
      (ds_cons (ds_expr (d_own oNeedThings hr (da_cons (dv 2) da_nil)))
      (ds_one (ds_ret (d_own oGraph hr (da_cons (dv 0) (da_cons (dv 1) (da_cons (dv 2) da_nil)))))))))⟩

abbrev sLead : Stmt := topS 33
abbrev nLead : List Str := ["one", "other", "things", "graph", "values", "ring", "pair"]
theorem scLead : FnScope nLead ["one", "other", "things"] (defScope sLead) := ⟨rfl, rfl, rfl, by decide +kernel, rfl, by decide +kernel, by decide +kernel⟩
def pLead : { g : DSt → Option Out // ∀ {P : Program} {w : World} {K : PySem.W.Frag} {mg : Str → Option Value} {base : Heap} {fa : Addr} {fd : FuncData}, Fun K "lead" "lead" sLead fa fd → mg "lead" = some (.ref fa) → Binds K fd ["one", "other", "things"] [] → Nm mg → OwnF P w K mg base "lead_asked" 6 3 (runD 3 pAsked.1) → OwnF P w K mg base "lead_values" 2 2 (runD 11 pValues.1) → OwnF P w K mg base "lead_begin" 2 2 (runD 2 pLBegin.1) → OwnF P w K mg base "lead" 7 3 (runD 7 g) } :=
  ⟨_, fun F hm b T oAsked oValues oLBegin => own_mk (k := 6) F hm b scLead fun cdv A outer s H E hr =>
    (ds_cons (ds_set (i := 3) scLead.nd (d_own oAsked hr (da_cons (dv 0) (da_cons (dv 1) (da_cons (dv 2) da_nil)))))
      (ds_cons (ds_asg (d_own oValues hr (da_cons (dv 3) (da_cons (d_own oLBegin hr (da_cons (dv 0) (da_cons (dv 1) da_nil))) da_nil))) (dgn_dg (dg_tup rfl (dgs_cons (dg_name (i := 4) scLead.nd) (dgs_cons (dg_name (i := 5) scLead.nd) dgs_nil)) gs_len2)))
      (ds_one (ds_ret (d_if (dt_cmp od_isN (dvR 5) (de_dr d_non)) (x_max T rfl hr.units (dn_dr (d_lc rfl scLead.nd ⟨blkOk_by (N := nLead) (sc := defScope sLead) (own := [("pair", 6)]) (by decide +kernel), (di_keys (dv 4)), fun _ _ _ _ _ => (dg_name (i := 6) scLead.nd), fun _ _ _ _ _ => can_ts0, fun _ _ _ _ _ => (d_get hr.units (dvR 4) (dvR 6))⟩))) d_non)))))⟩

abbrev sWays : Stmt := topS 34
abbrev nWays : List Str := ["graph", "begin", "values", "found", "row", "later", "pair", "asked", "goal", "more", "fine"]
theorem scWays : FnScope nWays ["graph", "begin", "values"] (defScope sWays) := ⟨rfl, rfl, rfl, by decide +kernel, rfl, by decide +kernel, by decide +kernel⟩
def pWays : { g : DSt → Option Out // ∀ {P : Program} {w : World} {K : PySem.W.Frag} {mg : Str → Option Value} {base : Heap} {fa : Addr} {fd : FuncData}, Fun K "lead_ways" "lead_ways" sWays fa fd → mg "lead_ways" = some (.ref fa) → Binds K fd ["graph", "begin", "values"] [] → Nm mg → OwnF P w K mg base "lead_ways" 1 3 (runD 11 g) } :=
  ⟨_, fun F hm b T => own_mk (k := 0) F hm b scWays fun cdv A outer s H E hr =>
    (ds_cons (ds_par2 3 4 rfl scWays.nd (dvs_mu (d_disp1 hr.units (dvR 1) (d_tup da_nil)) (dvs_mu (d_lst (da_cons (dv 1) da_nil)) dvs_nil)))
      (ds_cons (ds_while 4000 (dt_cmp (od_ne hr.units) (dvR 4) (dn_dr (d_lst da_nil))) (ds_cons (ds_setN (i := 5) scWays.nd (d_lst da_nil))
      (ds_cons (ds_fz 4 (ds_for rfl (di_list (dv 4)) (dgn_dg (dg_name (i := 6) scWays.nd)) (ds_one (ds_for rfl (di_enum (d_get hr.units (dvR 0) (dvR 6)) rfl T.enumerate) (dgn_dg (dg_tup rfl (dgs_cons (dg_name (i := 7) scWays.nd) (dgs_cons (dg_tup rfl (dgs_cons (dg_name (i := 8) scWays.nd) (dgs_cons (dg_name (i := 9) scWays.nd) dgs_nil)) gs_len2) dgs_nil)) gs_len2)) (ds_cons (ds_set (i := 10) scWays.nd (d_or (d_cmp od_isN (dvR 2) (de_dr d_non)) (d_one (d_cmp (od_eq hr.units) (de_dr (d_bin od_add (de_dr (d_get hr.units (dvR 2) (dvR 6))) (dvR 9))) (de_dr (d_get hr.units (dvR 2) (dvR 8)))))))
      (ds_one (ds_if (dw_pt (dw_and (dt_val (dv 10)) (dw_and1 (dt_cmp (od_notInD hr.units) (dvR 8) (dvR 3))))) (ds_cons (ds_put 3 hr.units (dvR 8) (d_bin od_catT (de_dr (d_get hr.units (dvR 3) (dvR 6))) (de_dr (d_tup (da_cons (dv 7) da_nil)))))
      (ds_one (ds_app 5 (dv 8)))) ds_nil)))))))
      (ds_one (ds_fz 5 (ds_set (i := 4) scWays.nd (dv 5)))))))
      (ds_one (ds_fz 3 (ds_ret (dv 3))))))⟩

abbrev sRow : Stmt := topS 35
abbrev nRow : List Str := ["one", "other", "things", "graph", "begin", "values", "ring", "most", "ways", "pair"]
theorem scRow : FnScope nRow ["one", "other", "things"] (defScope sRow) := ⟨rfl, rfl, rfl, by decide +kernel, rfl, by decide +kernel, by decide +kernel⟩
def pRow : { g : DSt → Option Out // ∀ {P : Program} {w : World} {K : PySem.W.Frag} {mg : Str → Option Value} {base : Heap} {fa : Addr} {fd : FuncData}, Fun K "lead_row" "lead_row" sRow fa fd → mg "lead_row" = some (.ref fa) → Binds K fd ["one", "other", "things"] [] → Nm mg → OwnF P w K mg base "lead_asked" 6 3 (runD 3 pAsked.1) → OwnF P w K mg base "lead_values" 2 2 (runD 11 pValues.1) → OwnF P w K mg base "lead_begin" 2 2 (runD 2 pLBegin.1) → OwnF P w K mg base "lead_ways" 1 3 (runD 11 pWays.1) → OwnF P w K mg base "lead_row" 7 3 (runD 10 g) } :=
  ⟨_, fun F hm b T oAsked oValues oLBegin oWays => own_mk (k := 6) F hm b scRow fun cdv A outer s H E hr =>
    (ds_cons (ds_set (i := 3) scRow.nd (d_own oAsked hr (da_cons (dv 0) (da_cons (dv 1) (da_cons (dv 2) da_nil)))))
      (ds_cons (ds_set (i := 4) scRow.nd (d_own oLBegin hr (da_cons (dv 0) (da_cons (dv 1) da_nil))))
      (ds_cons (ds_asg (d_own oValues hr (da_cons (dv 3) (da_cons (dv 4) da_nil))) (dgn_dg (dg_tup rfl (dgs_cons (dg_name (i := 5) scRow.nd) (dgs_cons (dg_name (i := 6) scRow.nd) dgs_nil)) gs_len2)))
      (ds_cons (ds_if (dt_cmp od_notN (dvR 6) (de_dr d_non)) (ds_one (ds_ret d_non)) ds_nil)
      (ds_cons (ds_set (i := 7) scRow.nd (x_max T rfl hr.units (dn_dr (d_lc rfl scRow.nd ⟨blkOk_by (N := nRow) (sc := defScope sRow) (own := [("pair", 9)]) (by decide +kernel), (di_keys (dv 5)), fun _ _ _ _ _ => (dg_name (i := 9) scRow.nd), fun _ _ _ _ _ => can_ts0, fun _ _ _ _ _ => (d_get hr.units (dvR 5) (dvR 9))⟩))))
      (ds_cons (ds_set (i := 8) scRow.nd (d_own oWays hr (da_cons (dv 3) (da_cons (dv 4) (da_cons (dv 5) da_nil)))))
      (ds_one (ds_ret (d_ix (de_dr (x_min T rfl hr.units (dn_dr (d_lc rfl scRow.nd ⟨blkOk_by (N := nRow) (sc := defScope sRow) (own := [("pair", 9)]) (by decide +kernel), (di_keys (dv 8)), fun _ _ _ _ _ => (dg_name (i := 9) scRow.nd), fun _ _ _ _ _ => can_ts1 ((dt_cmp (od_eq hr.units) (de_dr (d_get hr.units (dvR 5) (dvR 9))) (dvR 7))), fun _ _ _ _ _ => (d_tup (da_cons (x_len T (de_dr (d_get hr.units (dvR 8) (dvR 9)))) (da_cons (d_get hr.units (dvR 8) (dvR 9)) da_nil)))⟩)))) (de_dr d_int))))))))))⟩

abbrev sLoop : Stmt := topS 36
abbrev nLoop : List Str := ["one", "other", "things", "graph", "begin", "ring"]
theorem scLoop : FnScope nLoop ["one", "other", "things"] (defScope sLoop) := ⟨rfl, rfl, rfl, by decide +kernel, rfl, by decide +kernel, by decide +kernel⟩
def pLoop : { g : DSt → Option Out // ∀ {P : Program} {w : World} {K : PySem.W.Frag} {mg : Str → Option Value} {base : Heap} {fa : Addr} {fd : FuncData}, Fun K "lead_loop" "lead_loop" sLoop fa fd → mg "lead_loop" = some (.ref fa) → Binds K fd ["one", "other", "things"] [] → OwnF P w K mg base "lead_asked" 6 3 (runD 3 pAsked.1) → OwnF P w K mg base "lead_values" 2 2 (runD 11 pValues.1) → OwnF P w K mg base "lead_begin" 2 2 (runD 2 pLBegin.1) → OwnF P w K mg base "lead_ways" 1 3 (runD 11 pWays.1) → OwnF P w K mg base "lead_loop" 7 3 (runD 6 g) } :=
  ⟨_, fun F hm b oAsked oValues oLBegin oWays => own_mk (k := 6) F hm b scLoop fun cdv A outer s H E hr =>
    (ds_cons (ds_set (i := 3) scLoop.nd (d_own oAsked hr (da_cons (dv 0) (da_cons (dv 1) (da_cons (dv 2) da_nil)))))
      (ds_cons (ds_set (i := 4) scLoop.nd (d_own oLBegin hr (da_cons (dv 0) (da_cons (dv 1) da_nil))))
      (ds_cons (ds_set (i := 5) scLoop.nd (d_ix (de_dr (d_own oValues hr (da_cons (dv 3) (da_cons (dv 4) da_nil)))) (de_dr d_int)))
      (ds_one (ds_ret (d_if (dt_cmp od_notN (dvR 5) (de_dr d_non)) (d_tup (da_cons (d_get hr.units (de_dr (d_own oWays hr (da_cons (dv 3) (da_cons (dv 4) (da_cons d_non da_nil))))) (de_dr (d_ix (dvR 5) (de_dr d_int)))) (da_cons (d_ix (dvR 5) (de_dr d_int)) da_nil))) d_non))))))⟩
end Deep
set_option maxRecDepth 100000
set_option maxHeartbeats 4000000
namespace Deep
open PySem PySem.Spec PyProof.Rows L2
abbrev sOut : Stmt := topS 42
abbrev nOut : List Str := ["_law_kind", "_law_row", "_law_at", "_law_come", "_law_used", "_law_many", "_law_rule", "_law_lies", "_law_marks", "_law_thing", "_law_uses", "_law_mark", "_law_spot"]
theorem scOut : FnScope nOut ["_law_kind", "_law_row", "_law_at", "_law_come", "_law_used", "_law_many"] (defScope sOut) := ⟨rfl, rfl, rfl, by decide +kernel, rfl, by decide +kernel, by decide +kernel⟩
def pOut : { g : DSt → Option Out // ∀ {P : Program} {w : World} {K : PySem.W.Frag} {mg : Str → Option Value} {base : Heap} {fa : Addr} {fd : FuncData}, Fun K "_law_shelf_out" "_law_shelf_out" sOut fa fd → mg "_law_shelf_out" = some (.ref fa) → Binds K fd ["_law_kind", "_law_row", "_law_at", "_law_come", "_law_used", "_law_many"] [] → Nm mg → OwnF P w K mg base "_law_shelf_out" 1 6 (runD 13 g) } :=
  ⟨_, fun F hm b T => own_mk (k := 0) F hm b scOut fun cdv A outer s H E hr =>
    (ds_cons (ds_par2 6 7 rfl scOut.nd (dvs_im (d_ix (dvR 0) (de_dr d_int)) (dvs_mu (x_sorted T hr.units (dn_dr (x_listD T rfl (dvR 3)))) dvs_nil)))
      (ds_cons (ds_setN (i := 8) scOut.nd (d_lst da_nil))
      (ds_cons (ds_fz 7 (ds_for rfl (di_list (dv 7)) (dgn_dg (dg_name (i := 9) scOut.nd)) (ds_cons (ds_setN (i := 10) scOut.nd (d_cat (dn_dr (d_lc rfl scOut.nd ⟨blkOk_by (N := nOut) (sc := defScope sOut) (own := [("_law_spot", 12)]) (by decide +kernel), (di_rng2 (d_bin od_add (dvR 2) (de_dr d_int)) (x_len T (dvR 1)) rfl T.range), fun _ _ _ _ _ => (dg_name (i := 12) scOut.nd), fun _ _ _ _ _ => can_ts1 ((dt_cmp (od_eq hr.units) (de_dr (d_ix (dvR 1) (de_dr (dv 12)))) (dvR 9))), fun _ _ _ _ _ => (dv 12)⟩)) (dn_dr (d_lst (da_cons (x_len T (dvR 1)) da_nil)))))
      (ds_cons (ds_setN (i := 11) scOut.nd (d_disp (dps_cons (d_tup (da_cons (d_get hr.units (dvR 3) (dvR 9)) (da_cons d_int da_nil))) (dps_cons (d_tup (da_cons (d_get hr.units (dvR 4) (dvR 9)) (da_cons d_int da_nil))) (dps_cons (d_tup (da_cons (d_neg (d_get hr.units (dvR 3) (dvR 9))) (da_cons d_int da_nil))) dps_nil)))))
      (ds_cons (ds_put 11 hr.units (de_dr d_str) (d_tup (da_cons (x_min2 T rfl (de_dr d_int) (de_dr (d_get hr.units (dvR 5) (dvR 9)))) (da_cons (d_get hr.units (dvR 3) (dvR 9)) da_nil))))
      (ds_cons (ds_put 11 hr.units (de_dr d_str) (d_tup (da_cons (d_neg (d_ix (dvR 10) (de_dr d_int))) (da_cons (dv 9) da_nil))))
      (ds_one (ds_app 8 (d_tup (da_cons (d_get hr.units (dvR 11) (dvR 6)) (da_cons (dv 9) da_nil)))))))))))
      (ds_one (ds_ret (d_ix (de_dr (x_min T rfl hr.units (dvR 8))) (de_dr d_int)))))))⟩

abbrev sTold : Stmt := topS 43
abbrev nTold : List Str := ["_law_kind", "_law_row", "_law_come", "_law_used", "_law_many", "_law_course", "_law_at", "_law_asked", "_law_thrown"]
theorem scTold : FnScope nTold ["_law_kind", "_law_row"] (defScope sTold) := ⟨rfl, rfl, rfl, by decide +kernel, rfl, by decide +kernel, by decide +kernel⟩
def pTold : { g : DSt → Option Out // ∀ {P : Program} {w : World} {K : PySem.W.Frag} {mg : Str → Option Value} {base : Heap} {fa : Addr} {fd : FuncData}, Fun K "_law_shelf_told" "_law_shelf_told" sTold fa fd → mg "_law_shelf_told" = some (.ref fa) → Binds K fd ["_law_kind", "_law_row"] [] → Nm mg → OwnF P w K mg base "_law_shelf_out" 1 6 (runD 13 pOut.1) → OwnF P w K mg base "_law_shelf_told" 2 2 (runD 9 g) } :=
  ⟨_, fun F hm b T oOut => own_mk (k := 1) F hm b scTold fun cdv A outer s H E hr =>
    (ds_cons (ds_par4 2 3 4 5 rfl scTold.nd (dvs_mu d_newK (dvs_mu d_newK (dvs_mu d_newK (dvs_mu (d_lst da_nil) dvs_nil)))))
      (ds_cons (ds_for rfl (di_rng1 (x_len T (dvR 1)) rfl T.range) (dgn_dg (dg_name (i := 6) scTold.nd)) (ds_cons (ds_par2 7 8 rfl scTold.nd (dvs_im (d_ix (dvR 1) (de_dr (dv 6))) (dvs_im d_non dvs_nil)))
      (ds_one (ds_if (dt_cmp (od_inD hr.units) (dvR 7) (dvR 2)) (ds_cons (ds_put 3 hr.units (dvR 7) (dv 6))
      (ds_cons (ds_put 4 hr.units (dvR 7) (d_bin od_add (de_dr (d_get hr.units (dvR 4) (dvR 7))) (de_dr d_int)))
      (ds_one (ds_app 5 (d_tup (da_cons d_bl (da_cons d_non da_nil))))))) (ds_cons (ds_if (dt_cmp (od_eq hr.units) (de_dr (x_lenD T (dvR 2))) (de_dr (d_ix (dvR 0) (de_dr d_int)))) (ds_cons (ds_set (i := 8) scTold.nd (d_bor 2 (d_bor 3 (d_bor 4 (d_own oOut hr (da_cons (dv 0) (da_cons (dv 1) (da_cons (dv 6) (da_cons (dv 2) (da_cons (dv 3) (da_cons (dv 4) da_nil)))))))))))
      (ds_one (ds_dpop 2 (dv 8)))) ds_nil)
      (ds_cons (ds_asg (d_tup (da_cons (dv 6) (da_cons (dv 6) (da_cons d_int da_nil)))) (dgg_tup rfl (dgg_cons (dg_sub 2 hr.units (dvR 7)) (dgg_cons (dg_sub 3 hr.units (dvR 7)) (dgg_cons (dg_sub 4 hr.units (dvR 7)) dgg_nil))) gs_len3))
      (ds_one (ds_app 5 (d_tup (da_cons d_bl (da_cons (dv 8) da_nil)))))))))))
      (ds_one (ds_fz 5 (ds_ret (d_tup (da_cons (dv 5) (da_cons (x_tuple T (dn_dr (x_sorted T hr.units (dn_dr (x_listD T rfl (dvR 2)))))) da_nil))))))))⟩

abbrev sBy : Stmt := topS 44
abbrev nBy : List Str := ["_law_one", "_law_other", "_law_row", "_law_mine", "_law_yours", "_law_step"]
theorem scBy : FnScope nBy ["_law_one", "_law_other", "_law_row"] (defScope sBy) := ⟨rfl, rfl, rfl, by decide +kernel, rfl, by decide +kernel, by decide +kernel⟩
def pBy : { g : DSt → Option Out // ∀ {P : Program} {w : World} {K : PySem.W.Frag} {mg : Str → Option Value} {base : Heap} {fa : Addr} {fd : FuncData}, Fun K "_law_lead_by" "_law_lead_by" sBy fa fd → mg "_law_lead_by" = some (.ref fa) → Binds K fd ["_law_one", "_law_other", "_law_row"] [] → Nm mg → OwnF P w K mg base "_law_shelf_told" 2 2 (runD 9 pTold.1) → OwnF P w K mg base "_law_lead_by" 3 3 (runD 6 g) } :=
  ⟨_, fun F hm b T oTold => own_mk (k := 2) F hm b scBy fun cdv A outer s H E hr =>
    (ds_cons (ds_par2 3 4 rfl scBy.nd (dvs_im (d_ix (de_dr (d_own oTold hr (da_cons (dv 0) (da_cons (dv 2) da_nil)))) (de_dr d_int)) (dvs_im (d_ix (de_dr (d_own oTold hr (da_cons (dv 1) (da_cons (dv 2) da_nil)))) (de_dr d_int)) dvs_nil)))
      (ds_one (ds_ret (d_bin od_sub (de_dr (x_len T (dn_dr (d_lc rfl scBy.nd ⟨blkOk_by (N := nBy) (sc := defScope sBy) (own := [("_law_step", 5)]) (by decide +kernel), (di_list (dv 4)), fun _ _ _ _ _ => (dg_name (i := 5) scBy.nd), fun _ _ _ _ _ => can_ts1 ((dt_val (d_ix (dvR 5) (de_dr d_int)))), fun _ _ _ _ _ => (dv 5)⟩)))) (de_dr (x_len T (dn_dr (d_lc rfl scBy.nd ⟨blkOk_by (N := nBy) (sc := defScope sBy) (own := [("_law_step", 5)]) (by decide +kernel), (di_list (dv 3)), fun _ _ _ _ _ => (dg_name (i := 5) scBy.nd), fun _ _ _ _ _ => can_ts1 ((dt_val (d_ix (dvR 5) (de_dr d_int)))), fun _ _ _ _ _ => (dv 5)⟩))))))))⟩

abbrev sRows : Stmt := topS 45
abbrev nRows : List Str := ["_law_things", "_law_many", "_law_found", "_law_k", "_law_longer", "_law_row", "_law_asked"]
theorem scRows : FnScope nRows ["_law_things", "_law_many"] (defScope sRows) := ⟨rfl, rfl, rfl, by decide +kernel, rfl, by decide +kernel, by decide +kernel⟩
def pRows : { g : DSt → Option Out // ∀ {P : Program} {w : World} {K : PySem.W.Frag} {mg : Str → Option Value} {base : Heap} {fa : Addr} {fd : FuncData}, Fun K "_law_lead_rows" "_law_lead_rows" sRows fa fd → mg "_law_lead_rows" = some (.ref fa) → Binds K fd ["_law_things", "_law_many"] [] → Nm mg → OwnF P w K mg base "_law_lead_rows" 1 2 (runD 7 g) } :=
  ⟨_, fun F hm b T => own_mk (k := 0) F hm b scRows fun cdv A outer s H E hr =>
    (ds_cons (ds_setN (i := 2) scRows.nd (d_lst (da_cons (d_tup da_nil) da_nil)))
      (ds_cons (ds_for rfl (di_rng1 (dv 1) rfl T.range) (dgn_dg (dg_name (i := 3) scRows.nd)) (ds_cons (ds_setN (i := 4) scRows.nd (d_lst da_nil))
      (ds_cons (ds_fz 2 (ds_for rfl (di_list (dv 2)) (dgn_dg (dg_name (i := 5) scRows.nd)) (ds_one (ds_setN (i := 4) scRows.nd (d_cat (dvR 4) (dn_dr (d_lc rfl scRows.nd ⟨blkOk_by (N := nRows) (sc := defScope sRows) (own := [("_law_asked", 6)]) (by decide +kernel), (di_rng1 (dv 0) rfl T.range), fun _ _ _ _ _ => (dg_name (i := 6) scRows.nd), fun _ _ _ _ _ => can_ts0, fun _ _ _ _ _ => (d_bin od_catT (dvR 5) (de_dr (d_tup (da_cons (dv 6) da_nil))))⟩)))))))
      (ds_one (ds_fz 4 (ds_set (i := 2) scRows.nd (dv 4)))))))
      (ds_one (ds_fz 2 (ds_ret (dv 2))))))⟩
end Deep
set_option maxRecDepth 100000
set_option maxHeartbeats 4000000
namespace Deep
open PySem PySem.Spec PyProof.Rows L2
/-! ### the law's source of draws -/
abbrev sMix : Stmt := topS 38
abbrev sNxt : Stmt := topS 39
abbrev sPick : Stmt := topS 41
abbrev sAsk : Stmt := topS 46
abbrev nMix : List Str := ["_law_script", "_law_seed", "_law_state", "_law_cell"]
abbrev nNxt : List Str := ["_law_h", "_law_cap", "_law_cell"]
abbrev nPick : List Str := ["_law_h", "_law_things"]
abbrev nAsk : List Str := ["_law_h", "_law_one", "_law_other", "_law_things"]
theorem scMix : FnScope nMix ["_law_script", "_law_seed"] (defScope sMix) := ⟨rfl, rfl, rfl, by decide +kernel, rfl, by decide +kernel, by decide +kernel⟩
theorem scNxt : FnScope nNxt ["_law_h", "_law_cap"] (defScope sNxt) := ⟨rfl, rfl, rfl, by decide +kernel, rfl, by decide +kernel, by decide +kernel⟩
theorem scPick : FnScope nPick ["_law_h", "_law_things"] (defScope sPick) := ⟨rfl, rfl, rfl, by decide +kernel, rfl, by decide +kernel, by decide +kernel⟩
theorem scAsk : FnScope nAsk ["_law_h"] (defScope sAsk) := ⟨rfl, rfl, rfl, by decide +kernel, rfl, by decide +kernel, by decide +kernel⟩
def Dev (H : Hp) (a b : Addr) : Prop := ∃ (st k : Int) (cs : List Int), H a = some (.lst [.int st, .ref b, .int k]) ∧ H b = some (.lst (cs.map V.int)) ∧ cs.length ≤ 100
def Stp (a b : Addr) (H H' : Hp) : Prop := ∀ c o, H c = some o → c ≠ a → c ≠ b → H' c = some o
theorem Stp.refl (a b : Addr) (H : Hp) : Stp a b H H := fun _ _ h _ _ => h
theorem Stp.trans {a b : Addr} {H H1 H2 : Hp} (s : Stp a b H H1) (t : Stp a b H1 H2) : Stp a b H H2 := fun c o h n m => t c o (s c o h n m) n m
theorem Stp.kept {a b : Addr} {H H' : Hp} (d : Dev H a b) (s : Stp a b H H') : Kept H H' := by
  obtain ⟨st, k, cs, h1, h2, _⟩ := d
  exact ⟨fun c xs h => s c _ h (fun z => by rw [z, h1] at h; cases h) (fun z => by rw [z, h2] at h; cases h), fun c o u h => s c _ h (fun z => by rw [z, h1] at h; cases h) (fun z => by rw [z, h2] at h; cases h)⟩
theorem Stp.same {a b : Addr} {H H' : Hp} (s : Same H H') : Stp a b H H' := fun c o h _ _ => s c o h
theorem Dev.same {a b : Addr} {H H' : Hp} (s : Same H H') (d : Dev H a b) : Dev H' a b := by
  obtain ⟨st, k, cs, h1, h2, h3⟩ := d
  exact ⟨st, k, cs, s _ _ h1, s _ _ h2, h3⟩
theorem dev_ne {H : Hp} {a b : Addr} {st k : Int} {cs : List Int} (h1 : H a = some (.lst [.int st, .ref b, .int k])) (h2 : H b = some (.lst (cs.map V.int))) : a ≠ b := fun z => by
  subst z
  rw [h1] at h2
  injection h2 with h2
  injection h2 with h2
  match cs, h2 with
  | [], h2 => cases h2
  | [_], h2 => cases h2
  | _ :: _ :: _, h2 => simp at h2
def spNxt : Sp := fun vs H Q _ => ∃ (a b : Addr) (n : Int), vs = [.ref a, .int n] ∧ 1 ≤ n ∧ n < 1073741824 ∧ Dev H a b ∧ ∀ (r : Int) (H' : Hp), 0 ≤ r → r < n → Dev H' a b → Stp a b H H' → Q (.int r) H'
def spPick : Sp := fun vs H Q _ => ∃ (a b l : Addr) (xs : List V), vs = [.ref a, .ref l] ∧ Dev H a b ∧ H l = some (.lst xs) ∧ l ≠ a ∧ l ≠ b ∧ 1 ≤ xs.length ∧ xs.length ≤ 1000 ∧ ∀ (i : Nat) (x : V) (H' : Hp), xs[i]? = some x → Dev H' a b → Stp a b H H' → Q x H'
def spMix (K : PySem.W.Frag) : Sp := fun vs H Q _ => ∃ (s : Addr) (ns : List Int) (z : Int), vs = [.ref s, .int z] ∧ SqL K H s (ns.map V.int) ∧ ns.length ≤ 100 ∧ ∀ (a b : Addr) (H' : Hp), Dev H' a b → Q (.ref a) H'
def askD (r1 : Str) (m1 : Int) (r2 : Str) (m2 : Int) (t : Int) : D := .tup [.tup [.str r1, .int m1], .tup [.str r2, .int m2], .int t]
def rules : List Str := ["eldest", "lately", "newest", "seldom", "best"]
def spAsk (w : World) (K : PySem.W.Frag) : Sp := fun vs H Q _ => ∃ (a b : Addr), vs = [.ref a] ∧ Dev H a b ∧
  ∀ (v : V) (r1 r2 : Str) (m1 m2 t : Int) (H' : Hp), r1 ∈ rules → r2 ∈ rules → 1 ≤ m1 → m1 ≤ 2 → 1 ≤ m2 → m2 ≤ 2 → 1 ≤ t → t ≤ 3 → Dev H' a b → Rep w K H' v (askD r1 m1 r2 m2 t) → Q v H'
theorem ixN_n {n j : Nat} (hj : j < n) : ixN n (j : Int) = some j := by
  unfold ixN
  rw [if_pos (by omega), if_pos (by omega)]
  rfl
theorem ix_ok {cs : List Int} (k : Int) {N : Int} (hN : N = if ((cs.map V.int).length : Int) > 1 then ((cs.map V.int).length : Int) else 1) : N ≠ 0 ∧ ∃ (j : Nat) (c : Int), k.fmod N = (j : Int) ∧ (cs.map V.int ++ [V.int 0])[j]? = some (.int c) ∧ ((c = 0) ∨ (j < cs.length ∧ N = ((cs.map V.int).length : Int))) := by
  rw [List.length_map] at hN ⊢
  have h0 : 0 < N := by
    rw [hN]
    split <;> omega
  have l1 : 0 ≤ k.fmod N := Int.fmod_nonneg_of_pos k h0
  have l2 := Int.fmod_lt_of_pos k h0
  have e : ((k.fmod N).toNat : Int) = k.fmod N := Int.toNat_of_nonneg l1
  refine ⟨by omega, (k.fmod N).toNat, ?_⟩
  by_cases hc : cs.length = 0
  · have : cs = [] := List.eq_nil_of_length_eq_zero hc
    subst this
    have hN1 : N = 1 := hN
    have hz : (k.fmod N).toNat = 0 := by omega
    refine ⟨0, e.symm, ?_, .inl rfl⟩
    rw [hz]
    rfl
  · have hN2 : N = (cs.length : Int) := by
      rw [hN]
      split <;> omega
    have hj : (k.fmod N).toNat < cs.length := by omega
    exact ⟨cs[(k.fmod N).toNat], e.symm, by rw [List.getElem?_append_left (by rw [List.length_map]; exact hj), List.getElem?_map, List.getElem?_eq_getElem hj]; rfl, .inr ⟨hj, hN2⟩⟩
section
variable {P : Program} {w : World} {K : PySem.W.Frag} {mg : Str → Option Value} {base : Heap}
theorem ok_next {f : Addr} {fd : FuncData} (F : Fun K "_law_next" "_law_next" sNxt f fd) (T : Nm mg) : FnOk P w K mg base CX0 1 f fd ["_law_h", "_law_cap"] spNxt := by
  refine F.ok scNxt (fun vs H Q E h => ?_) (fun cdv A outer s H vs Q E hr h => ?_)
  · obtain ⟨a, b, n, rfl, _⟩ := h
    rfl
  · obtain ⟨a, b, n, rfl, n1, n2, ⟨st, k, cs, h1, h2, hl⟩, q⟩ := h
    have nab := dev_ne h1 h2
    refine ⟨_, pss_cons (ps_set (i := 2) scNxt.nd rfl (Or.inl rfl) (pe_ix ix_list (pe_op op_cat (pe_ix ix_list (pv 0) pe_int (fun _ _ => rfl)) (pe_lst (pa_cons pe_int pa_nil)))
        (pe_op op_modN (pe_callTy call_int1 (by rfl) T.int PyProof.Rows.boot_int (pa_cons (pe_ix ix_list (pv 0) pe_int (fun _ _ => rfl)) pa_nil))
          (pe_callB (call_max2 rfl) (by rfl) T.max boot_max (pa_cons pe_int (pa_cons (pe_callB call_len_seq (by rfl) T.len PySem.boot_len (pa_cons (pe_ix ix_list (pv 0) pe_int (fun _ _ => rfl)) pa_nil)) pa_nil)))) (fun _ _ => rfl)))
      (pss_cons (ps_if (pt_cmpR op_ge (pv 2) (pe_op op_pow pe_int pe_int) (nomark _))
        (pss_cons (ps_asg (pe_op op_fdivN (pv 2) (pv 1)) (pg_sub (pe_ix ix_list (pv 0) pe_int (fun _ _ => rfl))
            (pe_op op_modN (pe_callTy call_int1 (by rfl) T.int PyProof.Rows.boot_int (pa_cons (pe_ix ix_list (pv 0) pe_int (fun _ _ => rfl)) pa_nil)) (pe_callB call_len_seq (by rfl) T.len PySem.boot_len (pa_cons (pe_ix ix_list (pv 0) pe_int (fun _ _ => rfl)) pa_nil))) set_list))
          (pss_one (ps_ret (pe_op op_modN (pe_callTy call_int1 (by rfl) T.int PyProof.Rows.boot_int (pa_cons (pv 2) pa_nil)) (pv 1)))))
        pss_nil)
      (pss_cons (ps_asg (pe_op op_modN (pe_callTy call_int1 (by rfl) T.int PyProof.Rows.boot_int (pa_cons (pe_op op_add (pe_op op_add (pe_op op_mul (pe_ix ix_list (pv 0) pe_int (fun _ _ => rfl)) pe_int) (pe_op op_mul (pv 2) pe_int)) pe_int) pa_nil)) pe_int) (pg_sub (pv 0) pe_int set_list))
      (pss_cons (ps_asg (pe_op op_add (pe_ix ix_list (pv 0) pe_int (fun _ _ => rfl)) pe_int) (pg_sub (pv 0) pe_int set_list))
      (pss_one (ps_ret (pe_op op_modN (pe_callTy call_int1 (by rfl) T.int PyProof.Rows.boot_int (pa_cons (pe_op op_fdivN (pe_ix ix_list (pv 0) pe_int (fun _ _ => rfl)) pe_int) pa_nil)) (pv 1))))))), ?_⟩
    refine ⟨_, rfl, a, _, 1, .ref b, rfl, rfl, SqL.of h1, rfl, (by rw [sizeLine_eq]; decide), fun l hl' => ?_⟩
    have nla : a ≠ l := ne_of_none h1 hl'
    have nlb : b ≠ l := ne_of_none h2 hl'
    refine ⟨b, l, _, _, rfl, rfl, (by rw [upd_ne nlb]; exact h2), upd_same, (by rw [sizeLine_eq, List.length_map]; show cs.length + 1 ≤ _; omega), fun p hp => ?_⟩
    have hp0 : H p = none := by
      by_cases z : p = l
      · rw [z] at hp; rw [upd_same] at hp; cases hp
      · rw [upd_ne z] at hp; exact hp
    have npa : a ≠ p := ne_of_none h1 hp0
    have npb : b ≠ p := ne_of_none h2 hp0
    have nlp : l ≠ p := fun z => by rw [z] at hp; rw [upd_same] at hp; cases hp
    have h1' : (upd (upd H l (.lst [.int 0])) p (.lst (cs.map V.int ++ [.int 0]))) a = some (.lst [.int st, .ref b, .int k]) := by rw [upd_ne npa, upd_ne nla]; exact h1
    have h2' : (upd (upd H l (.lst [.int 0])) p (.lst (cs.map V.int ++ [.int 0]))) b = some (.lst (cs.map V.int)) := by rw [upd_ne npb, upd_ne nlb]; exact h2
    have sm : Same H (upd (upd H l (.lst [.int 0])) p (.lst (cs.map V.int ++ [.int 0]))) := fun c o hc => by rw [upd_ne (ne_of_none hc hp0), upd_ne (ne_of_none hc hl')]; exact hc
    refine ⟨_, rfl, a, _, 2, .int k, rfl, rfl, SqL.of h1', rfl, .inl ⟨k, rfl, ?_⟩⟩
    refine ⟨_, rfl, a, _, 1, .ref b, rfl, rfl, SqL.of h1', rfl, b, _, rfl, .inl (SqL.of h2'), ?_⟩
    refine ⟨_, _, rfl, ?_⟩
    obtain ⟨hN0, j, c, e1, e2, e3⟩ := ix_ok (cs := cs) k rfl
    refine ⟨_, _, rfl, rfl, hN0, ?_⟩
    refine ⟨p, _, _, .int c, rfl, rfl, SqL.of upd_same, (by rw [e1]; exact atI_nat e2), ?_⟩
    refine ⟨_, rfl, _, _, rfl, rfl, ⟨by decide, by decide, by decide⟩, _, _, rfl, rfl, _, rfl, ?_⟩
    refine ite2 (fun hc => ?_) (fun hc => ?_)
    · have hc' := of_decide_eq_true hc
      have e3' := e3.resolve_left fun z => by subst z; exact absurd hc' (by decide)
      refine ⟨_, rfl, _, rfl, _, _, rfl, rfl, ⟨by omega, by omega⟩, ?_⟩
      refine ⟨_, rfl, a, _, 1, .ref b, rfl, rfl, SqL.of h1', rfl, ?_⟩
      refine ⟨_, rfl, a, _, 2, .int k, rfl, rfl, SqL.of h1', rfl, .inl ⟨k, rfl, ?_⟩⟩
      refine ⟨_, rfl, a, _, 1, .ref b, rfl, rfl, SqL.of h1', rfl, b, _, rfl, .inl (SqL.of h2'), ?_⟩
      obtain ⟨hj, hN⟩ := e3'
      refine ⟨_, _, rfl, rfl, by rw [← hN]; exact hN0, ?_⟩
      refine ⟨b, _, _, j, rfl, rfl, h2', by rw [← hN, e1]; exact ixN_n (by rw [List.length_map]; exact hj), ?_⟩
      refine ⟨_, rfl, .inl ⟨_, rfl, _, rfl, _, _, rfl, rfl, by omega, ?_⟩⟩
      refine q _ _ (Int.fmod_nonneg_of_pos _ (by omega)) (Int.fmod_lt_of_pos _ (by omega)) ⟨st, k, cs.set j (c.fdiv n), by rw [upd_ne nab]; exact h1', ?_, by rw [List.length_set]; exact hl⟩ fun x o hx n1 n2 => by rw [upd_ne n2]; exact sm _ _ hx
      rw [upd_same, List.map_set]
    · refine ⟨_, rfl, a, _, 0, .int st, rfl, rfl, SqL.of h1', rfl, _, _, rfl, rfl, .inr ⟨by decide, by decide⟩, ?_⟩
      refine ⟨_, rfl, _, _, rfl, rfl, .inr ⟨by decide, by decide⟩, _, _, rfl, rfl, _, _, rfl, rfl, .inl ⟨_, rfl, _, _, rfl, rfl, (by show (2147483647 : Int) ≠ 0; decide), ?_⟩⟩
      refine ⟨_, rfl, a, _, 0, 0, rfl, rfl, h1', rfl, ?_⟩
      refine ⟨_, rfl, a, _, 2, .int k, rfl, rfl, SqL.of upd_same, rfl, _, _, rfl, rfl, ?_⟩
      refine ⟨_, rfl, a, _, 2, 2, rfl, rfl, upd_same, rfl, ?_⟩
      refine ⟨_, rfl, a, _, 0, _, rfl, rfl, SqL.of upd_same, rfl, _, _, rfl, rfl, ⟨by decide, by decide⟩, .inl ⟨_, rfl, _, rfl, _, _, rfl, rfl, by omega, ?_⟩⟩
      refine q _ _ (Int.fmod_nonneg_of_pos _ (by omega)) (Int.fmod_lt_of_pos _ (by omega)) ⟨_, _, cs, upd_same, by rw [upd_ne nab.symm, upd_ne nab.symm]; exact h2', hl⟩ fun x o hx n1 n2 => by rw [upd_ne n1, upd_ne n1]; exact sm _ _ hx
/-- an own def by its promise -/
def OwnH (P : Program) (w : World) (K : PySem.W.Frag) (mg : Str → Option Value) (base : Heap) (x : Str) (k : Nat) (ps : List Str) (sp : Sp) : Prop :=
  ∃ (f : Addr) (fd : FuncData), FnOk P w K mg base CX0 k f fd ps sp ∧ mg x = some (.ref f) ∧ PySem.W.keepIn K (.ref f) = true ∧ Binds K fd ps []
theorem ok_pick {f : Addr} {fd : FuncData} (F : Fun K "_law_pick" "_law_pick" sPick f fd) (T : Nm mg) (N : OwnH P w K mg base "_law_next" 1 ["_law_h", "_law_cap"] spNxt) : FnOk P w K mg base CX0 2 f fd ["_law_h", "_law_things"] spPick := by
  obtain ⟨fn, fdn, G, mN, kN, bN⟩ := N
  refine F.ok scPick (fun vs H Q E h => ?_) (fun cdv A outer s H vs Q E hr h => ?_)
  · obtain ⟨a, b, l, xs, rfl, _⟩ := h
    rfl
  · obtain ⟨a, b, l, xs, rfl, d, hl, nla, nlb, h1, h2, q⟩ := h
    refine ⟨_, pss_one (ps_ret (pe_ix ix_list (pv 1) (pe_call G hr rfl mN kN bN .nil pass0 (pa_cons (pv 0) (pa_cons (pe_callB call_len_seq (by rfl) T.len PySem.boot_len (pa_cons (pv 1) pa_nil)) pa_nil))) (fun _ _ => rfl))), ?_⟩
    refine ⟨_, rfl, _, rfl, _, rfl, l, _, rfl, .inl (SqL.of hl), a, b, _, rfl, by omega, by omega, d, fun r H' r0 r1 d' s' => ?_⟩
    obtain ⟨j, rfl⟩ : ∃ j : Nat, r = (j : Int) := ⟨r.toNat, by omega⟩
    have hr' : j < xs.length := by omega
    exact ⟨l, xs, (j : Int), xs[j], rfl, rfl, SqL.of (s' _ _ hl nla nlb), atI_nat (List.getElem?_eq_getElem hr'), q j _ _ (List.getElem?_eq_getElem hr') d' s'⟩
theorem ok_mix {f : Addr} {fd : FuncData} (F : Fun K "_law_mix" "_law_mix" sMix f fd) (T : Nm mg) : FnOk P w K mg base CX0 1 f fd ["_law_script", "_law_seed"] (spMix K) := by
  refine F.ok scMix (fun vs H Q E h => ?_) (fun cdv A outer s H vs Q E hr h => ?_)
  · obtain ⟨a, ns, z, rfl, _⟩ := h
    rfl
  · obtain ⟨a, ns, z, rfl, hS, hl, q⟩ := h
    refine ⟨_, pss_cons (ps_set (i := 2) scMix.nd rfl (Or.inl rfl) (pv 1))
      (pss_cons (ps_for PassesOwn.never rfl (pi_list (pv 0)) (pg_name (i := 3) scMix.nd rfl (Or.inl rfl))
        (pss_one (ps_set (i := 2) scMix.nd rfl (Or.inl rfl) (pe_op op_modN (pe_callTy call_int1 (by rfl) T.int PyProof.Rows.boot_int (pa_cons (pe_op op_add (pe_op op_add (pe_op op_mul (pv 2) pe_int) (pe_op op_modN (pe_callTy call_int1 (by rfl) T.int PyProof.Rows.boot_int (pa_cons (pv 3) pa_nil)) pe_int)) pe_int) pa_nil)) pe_int))))
      (pss_one (ps_ret (pe_lst (pa_cons (pv 2) (pa_cons (pe_callTy call_list_of (by rfl) T.list PyProof.Rows.boot_list (pa_cons (pv 0) pa_nil)) (pa_cons pe_int pa_nil))))))), ?_⟩
    refine ⟨_, rfl, ?_⟩
    refine ⟨_, rfl, a, rfl, ⟨_, hS⟩, for_list (xs := ns.map V.int) (fun i σ H' => ∃ (st : Int) (x : Option V), σ = [some (.ref a), some (.int z), some (.int st), x] ∧ H' = H) ⟨z, none, rfl, rfl⟩ (fun i σ H' _ ⟨st, x, e, e2⟩ => by subst e2; exact hS) (fun i x σ H' hx ⟨st, y, e, e2⟩ => ?_) (fun σ H' ⟨st, y, e, e2⟩ => ?_)⟩
    · subst e e2
      rw [List.getElem?_map] at hx
      obtain ⟨c, hc, rfl⟩ := Option.map_eq_some_iff.mp hx
      refine ⟨_, rfl, _, _, rfl, rfl, .inr ⟨by decide, by decide⟩, _, rfl, .inl ⟨c, rfl, _, _, rfl, rfl, (by show (2147483629 : Int) ≠ 0; decide), _, _, rfl, rfl, _, _, rfl, rfl, .inl ⟨_, rfl, _, _, rfl, rfl, (by show (2147483647 : Int) ≠ 0; decide), ?_⟩⟩⟩
      exact ⟨_, _, rfl, rfl⟩
    · subst e e2
      refine ⟨_, rfl, _, rfl, a, _, rfl, .inl hS, fun b hb => ⟨(by rw [sizeLine_eq]; show (3 : Nat) ≤ 16777216; decide), fun p hp => ?_⟩⟩
      have nbp : b ≠ p := fun z => by rw [z] at hp; rw [upd_same] at hp; cases hp
      exact q p b _ ⟨st, 0, ns, upd_same, by rw [upd_ne nbp, upd_same], hl⟩
theorem ok_ask {f : Addr} {fd : FuncData} (F : Fun K "_law_lead_asked" "_law_lead_asked" sAsk f fd) (N : OwnH P w K mg base "_law_next" 1 ["_law_h", "_law_cap"] spNxt) (Pk : OwnH P w K mg base "_law_pick" 2 ["_law_h", "_law_things"] spPick) : FnOk P w K mg base CX0 3 f fd ["_law_h"] (spAsk w K) := by
  obtain ⟨fn, fdn, GN, mN, kN, bN⟩ := N
  obtain ⟨fp, fdp, GP, mP, kP, bP⟩ := Pk
  refine F.ok scAsk (fun vs H Q E h => ?_) (fun cdv A outer s H vs Q E hr h => ?_)
  · obtain ⟨a, b, rfl, _⟩ := h
    rfl
  · obtain ⟨a, b, rfl, d, q⟩ := h
    refine ⟨_, pss_cons (ps_set (i := 1) scAsk.nd rfl (Or.inl rfl) (pe_tup (pa_cons (pe_call GP hr rfl mP kP bP .nil pass0 (pa_cons (pv 0) (pa_cons (pe_lst (pa_cons pe_str (pa_cons pe_str (pa_cons pe_str (pa_cons pe_str (pa_cons pe_str pa_nil)))))) pa_nil)))
          (pa_cons (pe_op op_add pe_int (pe_call GN (hr.mono (by decide)) rfl mN kN bN .nil pass0 (pa_cons (pv 0) (pa_cons pe_int pa_nil)))) pa_nil))))
      (pss_cons (ps_set (i := 2) scAsk.nd rfl (Or.inl rfl) (pe_tup (pa_cons (pe_call GP hr rfl mP kP bP .nil pass0 (pa_cons (pv 0) (pa_cons (pe_lst (pa_cons pe_str (pa_cons pe_str (pa_cons pe_str (pa_cons pe_str (pa_cons pe_str pa_nil)))))) pa_nil)))
          (pa_cons (pe_op op_add pe_int (pe_call GN (hr.mono (by decide)) rfl mN kN bN .nil pass0 (pa_cons (pv 0) (pa_cons pe_int pa_nil)))) pa_nil))))
      (pss_cons (ps_set (i := 3) scAsk.nd rfl (Or.inl rfl) (pe_op op_add pe_int (pe_call GN (hr.mono (by decide)) rfl mN kN bN .nil pass0 (pa_cons (pv 0) (pa_cons pe_int pa_nil)))))
      (pss_one (ps_ret (pe_tup (pa_cons (pv 1) (pa_cons (pv 2) (pa_cons (pv 3) pa_nil)))))))), ?_⟩
    -- one
    refine ⟨_, rfl, (by rw [sizeLine_eq]; decide), fun l hl => ?_⟩
    obtain ⟨st, k, cs, z1, z2, z3⟩ := id d
    have s0 : Same H (upd H l (.lst (rules.map V.str))) := fun c o hc => by rw [upd_ne (ne_of_none hc hl)]; exact hc
    refine ⟨a, b, l, _, rfl, d.same s0, upd_same, (ne_of_none z1 hl).symm, (ne_of_none z2 hl).symm, by decide, by decide, fun i x H1 hx d1 s1 => ?_⟩
    obtain ⟨r1, hr1, rfl⟩ : ∃ r ∈ rules, x = V.str r := by
      have := List.mem_of_getElem? hx
      simpa [rules, eq_comm] using this
    refine ⟨_, rfl, a, b, 2, rfl, by decide, by decide, d1, fun m1 H2 m10 m11 d2 s2 => ⟨_, _, rfl, rfl, (by rw [sizeLine_eq]; show (2 : Nat) ≤ 16777216; decide), fun p hp => ?_⟩⟩
    have d3 := d2.same (upd_same_of (o := .tup [.str r1, .int (1 + m1)]) hp)
    have q1 : Rep w K (upd H2 p (.tup [.str r1, .int (1 + m1)])) (.ref p) (.tup [.str r1, .int (1 + m1)]) := .tup (.of upd_same) (.cons (.str _) (.cons (.int _) .nil))
    -- other
    refine ⟨_, rfl, (by rw [sizeLine_eq]; decide), fun l2 hl2 => ?_⟩
    obtain ⟨st2, k2, cs2, y1, y2, y3⟩ := id d3
    have s3 := upd_same_of (o := .lst (rules.map V.str)) hl2
    refine ⟨a, b, l2, _, rfl, d3.same s3, upd_same, (ne_of_none y1 hl2).symm, (ne_of_none y2 hl2).symm, by decide, by decide, fun i2 x2 H4 hx2 d4 s4 => ?_⟩
    obtain ⟨r2, hr2, rfl⟩ : ∃ r ∈ rules, x2 = V.str r := by
      have := List.mem_of_getElem? hx2
      simpa [rules, eq_comm] using this
    refine ⟨_, rfl, a, b, 2, rfl, by decide, by decide, d4, fun m2 H5 m20 m21 d5 s5 => ⟨_, _, rfl, rfl, (by rw [sizeLine_eq]; show (2 : Nat) ≤ 16777216; decide), fun p2 hp2 => ?_⟩⟩
    have d6 := d5.same (upd_same_of (o := .tup [.str r2, .int (1 + m2)]) hp2)
    have q2 : Rep w K (upd H5 p2 (.tup [.str r2, .int (1 + m2)])) (.ref p2) (.tup [.str r2, .int (1 + m2)]) := .tup (.of upd_same) (.cons (.str _) (.cons (.int _) .nil))
    have q1' := ((((q1.mono (.same s3)).mono (s4.kept (d3.same s3))).mono (s5.kept d4)).mono (.same (upd_same_of (o := .tup [.str r2, .int (1 + m2)]) hp2)))
    -- things
    refine ⟨_, rfl, a, b, 3, rfl, by decide, by decide, d6, fun t H7 t0 t1 d7 s7 => ⟨_, _, rfl, rfl, ?_⟩⟩
    refine ⟨_, rfl, _, rfl, _, rfl, (by rw [sizeLine_eq]; show (3 : Nat) ≤ 16777216; decide), fun p3 hp3 => ?_⟩
    have s8 := upd_same_of (o := .tup [.ref p, .ref p2, .int (1 + t)]) hp3
    exact q _ r1 r2 (1 + m1) (1 + m2) (1 + t) _ hr1 hr2 (by omega) (by omega) (by omega) (by omega) (by omega) (by omega) (d7.same s8) (.tup (.of upd_same) (.cons ((q1'.mono (s7.kept d6)).mono (.same s8)) (.cons ((q2.mono (s7.kept d6)).mono (.same s8)) (.cons (.int _) .nil))))
end
end Deep
set_option maxRecDepth 100000
set_option maxHeartbeats 4000000
namespace Deep
open PySem PySem.Spec PyProof.Rows L2
abbrev sLaw : Stmt := topS 47
abbrev nLaw : List Str := ["_law_script", "_law_h", "_law_turn", "_law_one", "_law_other", "_law_things", "_law_found", "_law_row", "_law_loop", "_law_some", "_law_short", "_law_many", "_law_head", "_law_again", "_law_leads", "_law_steps", "_law_k"]
theorem scLaw : FnScope nLaw ["_law_script"] (defScope sLaw) := ⟨rfl, rfl, rfl, by decide +kernel, rfl, by decide +kernel, by decide +kernel⟩
def forBody : Stmt → List Stmt
  | .For _ _ b _ _ => b
  | _ => []
def turnB : List Stmt := forBody ((defBody sLaw).getD 1 (.Pass ⟨0, 0, 0, 0⟩))
def turnS (i : Nat) : Stmt := turnB.getD i (.Pass ⟨0, 0, 0, 0⟩)

def pTurnA : { g : DSt → Option Out // ∀ {P : Program} {w : World} {K : PySem.W.Frag} {mg : Str → Option Value} {base : Heap} {f : Addr} {cdv : Value} {A : Around} {outer : List Env} {s : Shared} {H : Hp} {E : XK}, Room 7 (A.deeper (envOfC "law" (defScope sLaw) s.heap.objs.size f cdv)) → OwnF P w K mg base "lead" 7 3 (runD 7 pLead.1) → OwnF P w K mg base "lead_row" 7 3 (runD 10 pRow.1) → OwnF P w K mg base "lead_loop" 7 3 (runD 6 pLoop.1) → DS (cxOf CX0 P w K mg base nLaw "law" (defScope sLaw) f cdv A outer s H E).nox (turnS 1) g } :=
  ⟨_, fun {P} {w} {K} {mg} {base} {f} {cdv} {A} {outer} {s} {H} {E} hr oLead oRow oLoop =>
    (ds_par3 6 7 8 rfl scLaw.nd (dvs_im (d_own oLead hr (da_cons (dv 3) (da_cons (dv 4) (da_cons (dv 5) da_nil)))) (dvs_im (d_own oRow hr (da_cons (dv 3) (da_cons (dv 4) (da_cons (dv 5) da_nil)))) (dvs_im (d_own oLoop hr (da_cons (dv 3) (da_cons (dv 4) (da_cons (dv 5) da_nil)))) dvs_nil))))⟩

def pTurnC : { g : DSt → Option Out // ∀ {P : Program} {w : World} {K : PySem.W.Frag} {mg : Str → Option Value} {base : Heap} {f : Addr} {cdv : Value} {A : Around} {outer : List Env} {s : Shared} {H : Hp} {E : XK}, Room 7 (A.deeper (envOfC "law" (defScope sLaw) s.heap.objs.size f cdv)) → DS (cxOf CX0 P w K mg base nLaw "law" (defScope sLaw) f cdv A outer s H E).nox (turnS 2) g } :=
  ⟨_, fun {P} {w} {K} {mg} {base} {f} {cdv} {A} {outer} {s} {H} {E} hr  =>
    (ds_if (dw_pt (dw_or (dt_cmp (od_ne hr.units) (de_dr (d_cmp od_isN (dvR 6) (de_dr d_non))) (de_dr (d_cmp od_isN (dvR 7) (de_dr d_non)))) (dw_or1 (dt_cmp (od_eq hr.units) (de_dr (d_cmp od_isN (dvR 6) (de_dr d_non))) (de_dr (d_cmp od_isN (dvR 8) (de_dr d_non))))))) (ds_one (ds_ret d_bl)) ds_nil)⟩

def pTurnB : { g : DSt → Option Out // ∀ {P : Program} {w : World} {K : PySem.W.Frag} {mg : Str → Option Value} {base : Heap} {f : Addr} {cdv : Value} {A : Around} {outer : List Env} {s : Shared} {H : Hp} {E : XK}, Room 7 (A.deeper (envOfC "law" (defScope sLaw) s.heap.objs.size f cdv)) → Nm mg → OwnF P w K mg base "_law_lead_by" 3 3 (runD 6 pBy.1) → OwnF P w K mg base "_law_lead_rows" 1 2 (runD 7 pRows.1) → DS (cxOf CX0 P w K mg base nLaw "law" (defScope sLaw) f cdv A outer s H E).nox (turnS 4) g } :=
  ⟨_, fun {P} {w} {K} {mg} {base} {f} {cdv} {A} {outer} {s} {H} {E} hr T oBy oRows =>
    (ds_if (dt_cmp od_notN (dvR 6) (de_dr d_non)) (ds_cons (ds_if (dw_pt (dw_or (dt_not (dt_val (x_isI T (dvR 6)))) (dw_or (dt_val (x_isB T (dvR 6))) (dw_or (dt_cmp od_gt (de_dr (x_max T rfl hr.units (dvR 10))) (dvR 6)) (dw_or1 (dt_cmp od_lt (dvR 6) (de_dr d_int))))))) (ds_one (ds_ret d_bl)) ds_nil)
      (ds_cons (ds_if (dw_pt (dw_or (dt_not (dt_val (x_isT T (dvR 7)))) (dw_or1 (dt_cmp (od_ne hr.units) (de_dr (d_own oBy hr (da_cons (dv 3) (da_cons (dv 4) (da_cons (dv 7) da_nil))))) (dvR 6))))) (ds_one (ds_ret d_bl)) ds_nil)
      (ds_cons (ds_for rfl (di_rng1 (x_min2 T rfl (de_dr (x_len T (dvR 7))) (de_dr d_int)) rfl T.range) (dgn_dg (dg_name (i := 11) scLaw.nd)) (ds_one (ds_if (dt_cmp od_ge (de_dr (x_max T rfl hr.units (dn_dr (d_lc rfl scLaw.nd ⟨blkOk_by (N := nLaw) (sc := defScope sLaw) (own := [("_law_some", 9)]) (by decide +kernel), (di_list (d_own oRows hr (da_cons (dv 5) (da_cons (dv 11) da_nil)))), fun _ _ _ _ _ => (dg_name (i := 9) scLaw.nd), fun _ _ _ _ _ => can_ts0, fun _ _ _ _ _ => (d_own oBy hr (da_cons (dv 3) (da_cons (dv 4) (da_cons (dv 9) da_nil))))⟩)))) (dvR 6)) (ds_one (ds_ret d_bl)) ds_nil)))
      (ds_one (ds_if (dt_cmp od_lt (de_dr (x_len T (dvR 7))) (de_dr d_int)) (ds_one (ds_for rfl (di_list (d_own oRows hr (da_cons (dv 5) (da_cons (x_len T (dvR 7)) da_nil)))) (dgn_dg (dg_name (i := 9) scLaw.nd)) (ds_one (ds_if (dw_pt (dw_and (dt_cmp (od_ltT hr.units0) (dvR 9) (dvR 7)) (dw_and1 (dt_cmp (od_eq hr.units) (de_dr (d_own oBy hr (da_cons (dv 3) (da_cons (dv 4) (da_cons (dv 9) da_nil))))) (dvR 6))))) (ds_one (ds_ret d_bl)) ds_nil)))) ds_nil))))) (ds_cons (ds_asg (dv 8) (dgn_dg (dg_tup rfl (dgs_cons (dg_name (i := 12) scLaw.nd) (dgs_cons (dg_name (i := 13) scLaw.nd) dgs_nil)) gs_len2)))
      (ds_cons (ds_if (dw_pt (dw_or (dt_cmp (od_eq hr.units) (dvR 13) (de_dr (d_tup da_nil))) (dw_or (dt_cmp od_ge (de_dr (x_max T rfl hr.units (de_dr (d_bin od_catT (dvR 12) (dvR 13))))) (dvR 5)) (dw_or1 (dt_cmp od_lt (de_dr (x_min T rfl hr.units (de_dr (d_bin od_catT (dvR 12) (dvR 13))))) (de_dr d_int)))))) (ds_one (ds_ret d_bl)) ds_nil)
      (ds_one (ds_if (dw_pt (dw_and (dt_cmp (od_ne hr.units) (de_dr (d_ix (dvR 3) (de_dr d_int))) (de_dr d_str)) (dw_and1 (dt_cmp (od_ne hr.units) (de_dr (d_ix (dvR 4) (de_dr d_int))) (de_dr d_str))))) (ds_cons (ds_setN (i := 14) scLaw.nd (d_lc rfl scLaw.nd ⟨blkOk_by (N := nLaw) (sc := defScope sLaw) (own := [("_law_k", 16)]) (by decide +kernel), (di_rng1 d_int rfl T.range), fun _ _ _ _ _ => (dg_name (i := 16) scLaw.nd), fun _ _ _ _ _ => can_ts0, fun _ _ _ _ _ => (d_own oBy hr (da_cons (dv 3) (da_cons (dv 4) (da_cons (d_bin od_catT (dvR 12) (de_dr (d_bin od_mulT (dvR 13) (dvR 16)))) da_nil))))⟩))
      (ds_cons (ds_setLc (i := 15) rfl scLaw.nd ⟨blkOk_by (N := nLaw) (sc := defScope sLaw) (own := [("_law_k", 16)]) (by decide +kernel), (di_rng1 d_int rfl T.range), fun _ _ _ _ _ => (dg_name (i := 16) scLaw.nd), fun _ _ _ _ _ => can_ts0, fun _ _ _ _ _ => (d_bin od_sub (de_dr (d_ix (dvR 14) (de_dr (d_bin od_add (dvR 16) (de_dr d_int))))) (de_dr (d_ix (dvR 14) (de_dr (dv 16)))))⟩)
      (ds_one (ds_if (dw_pt (dw_or (dt_cmp od_lt (de_dr (d_ix (dvR 15) (de_dr d_int))) (de_dr d_int)) (dw_or1 (dt_cmp (od_ne hr.units) (dvR 15) (dn_dr (d_rep (d_lst (da_cons (d_ix (dvR 15) (de_dr d_int)) da_nil)) d_int)))))) (ds_one (ds_ret d_bl)) ds_nil)))) ds_nil)))))⟩
end Deep
set_option maxRecDepth 100000
set_option maxHeartbeats 4000000
namespace Deep
open PySem PySem.Spec PyProof.Rows L2
/-! ### the law, walked; what its parts compute is asked of Plain -/
def kD (r : Str) (m : Int) : D := .tup [.str r, .int m]
def tst (a : Addr) (x y t : D) : DSt := [none, some (.im (.adr a)), none, some (.im x), some (.im y), some (.im t), none, none, none, none, none, none, none, none, none, none, none]
def fShort : DSt → Option D := fCall (runD 6 pBy.1) (fCons (fVar 3) (fCons (fVar 4) (fCons (fVar 9) fNil)))
def noMu (σ : DSt) : Bool := σ.all fun x => match x with
  | some (.mu _) => false
  | _ => true
structure TurnOk (a : Addr) (x y t : D) (m : Int) : Prop where
  ok : ∃ (σA σB : DSt) (ds xs : List D), pTurnA.1 (tst a x y t) = some (.nx σA) ∧ pTurnC.1 σA = some (.nx σA) ∧ noMu σA = true ∧ σA[1]? = some (some (.im (.adr a))) ∧ σA[5]? = some (some (.im t)) ∧
    runD 7 pRows.1 [t, .int m] = some (.lst ds) ∧ ds.length ≤ 100000 ∧ lcGo (wipeD σA [9]) (gNm 9) fYes fShort ds = some xs ∧
    pTurnB.1 (σA.set 10 (some (.mu (.lst xs)))) = some (.nx σB) ∧ σB[1]? = some (some (.im (.adr a))) ∧ σB.length = 17
def Plain : Prop := ∀ (a : Addr) (r1 r2 : Str) (m1 m2 t m : Int), r1 ∈ rules → r2 ∈ rules → 1 ≤ m1 → m1 ≤ 2 → 1 ≤ m2 → m2 ≤ 2 → 1 ≤ t → t ≤ 3 → (m = 3 ∨ m = 4) → TurnOk a (kD r1 m1) (kD r2 m2) (.int t) m
section
variable {P : Program} {w : World} {K : PySem.W.Frag} {mg : Str → Option Value} {base : Heap}
theorem DRel.again {G H H1 : Hp} {σD : DSt} {σV : L2.St} (r : DRel w K G σD σV H) (k : Kept H H1) (n : noMu σD = true) : DRel w K H1 σD σV H1 := by
  have no : ∀ (i : Nat) (m : MO), σD[i]? ≠ some (some (.mu m)) := fun i m e => by
    have := List.all_eq_true.mp n _ (List.mem_of_getElem? e)
    cases this
  refine ⟨r.len, Same.refl _, fun i dv e => ?_, fun i j m m' a e1 _ _ _ => absurd e1 (no i m)⟩
  obtain ⟨v, e1, q⟩ := r.slot i dv e
  refine ⟨v, e1, ?_⟩
  cases dv with
  | im d => exact Rep.mono k q
  | mu m => exact absurd e (no i m)
theorem tst_rel {H : Hp} {σV : L2.St} {a : Addr} {u v z : V} {x y t : D} (hl : σV.length = 17) (h1 : σV[1]? = some (some (.ref a))) (h3 : σV[3]? = some (some u)) (h4 : σV[4]? = some (some v)) (h5 : σV[5]? = some (some z)) (r3 : Rep w K H u x) (r4 : Rep w K H v y) (r5 : Rep w K H z t) : DRel w K H (tst a x y t) σV H := by
  have no : ∀ (i : Nat) (m : MO), (tst a x y t)[i]? ≠ some (some (.mu m)) := fun i m e => by
    have := List.mem_of_getElem? e
    simp [tst] at this
  refine ⟨hl.symm, Same.refl _, fun i dv e => ?_, fun i j m m' a e1 _ _ _ => absurd e1 (no i m)⟩
  have hi : i < 17 := by
    have := (List.getElem?_eq_some_iff.mp e).1
    exact this
  match i, e with
  | 0, e => cases e
  | 1, e => cases e; exact ⟨_, h1, .adr a⟩
  | 2, e => cases e
  | 3, e => cases e; exact ⟨_, h3, r3⟩
  | 4, e => cases e; exact ⟨_, h4, r4⟩
  | 5, e => cases e; exact ⟨_, h5, r5⟩
  | 6, e => cases e
  | 7, e => cases e
  | 8, e => cases e
  | 9, e => cases e
  | 10, e => cases e
  | 11, e => cases e
  | 12, e => cases e
  | 13, e => cases e
  | 14, e => cases e
  | 15, e => cases e
  | 16, e => cases e
  | i + 17, _ => omega
def spLaw (K : PySem.W.Frag) : Sp := fun vs H Q _ => ∃ (a : Addr) (ns : List Int), vs = [.ref a] ∧ SqL K H a (ns.map V.int) ∧ ns.length ≤ 63 ∧ ∀ H', Q (.bl true) H'
theorem ok_law (PL : Plain) {f : Addr} {fd : FuncData} (F : Fun K "law" "law" sLaw f fd) (T : Nm mg) (Mx : OwnH P w K mg base "_law_mix" 1 ["_law_script", "_law_seed"] (spMix K)) (Pk : OwnH P w K mg base "_law_pick" 2 ["_law_h", "_law_things"] spPick) (Ak : OwnH P w K mg base "_law_lead_asked" 3 ["_law_h"] (spAsk w K))
    (oLead : OwnF P w K mg base "lead" 7 3 (runD 7 pLead.1)) (oRow : OwnF P w K mg base "lead_row" 7 3 (runD 10 pRow.1)) (oLoop : OwnF P w K mg base "lead_loop" 7 3 (runD 6 pLoop.1)) (oBy : OwnF P w K mg base "_law_lead_by" 3 3 (runD 6 pBy.1)) (oRows : OwnF P w K mg base "_law_lead_rows" 1 2 (runD 7 pRows.1)) :
    FnOk P w K mg base CX0 8 f fd ["_law_script"] (spLaw K) := by
  obtain ⟨fm, fdm, GM, mM, kM, bM⟩ := Mx
  obtain ⟨fp, fdp, GP, mP, kP, bP⟩ := Pk
  obtain ⟨fa, fda, GA, mA, kA, bA⟩ := Ak
  refine F.ok scLaw (fun vs H Q E h => ?_) (fun cdv A outer s H vs Q E hr h => ?_)
  · obtain ⟨a, ns, rfl, _⟩ := h
    rfl
  · obtain ⟨a, ns, rfl, hS, hl, q⟩ := h
    obtain ⟨tA, pA, qA⟩ := pTurnA.2 (P := P) (w := w) (K := K) (mg := mg) (base := base) (f := f) (cdv := cdv) (A := A) (outer := outer) (s := s) (H := H) (E := E) hr oLead oRow oLoop
    obtain ⟨tC, pC, qC⟩ := pTurnC.2 (P := P) (w := w) (K := K) (mg := mg) (base := base) (f := f) (cdv := cdv) (A := A) (outer := outer) (s := s) (H := H) (E := E) hr
    obtain ⟨tB, pB, qB⟩ := pTurnB.2 (P := P) (w := w) (K := K) (mg := mg) (base := base) (f := f) (cdv := cdv) (A := A) (outer := outer) (s := s) (H := H) (E := E) hr T oBy oRows
    obtain ⟨fr, fdr, psr, GR, mR, kR, bR⟩ := id oRows
    refine ⟨_, pss_cons (ps_set (i := 1) scLaw.nd rfl (Or.inl rfl) (pe_call GM (hr.mono (by decide)) rfl mM kM bM .nil pass0 (pa_cons (pv 0) (pa_cons pe_int pa_nil))))
      (pss_cons (ps_for PassesOwn.never rfl (pi_range1 rfl T.range (pa_cons pe_int pa_nil)) (pg_name (i := 2) scLaw.nd rfl (Or.inl rfl))
        (pss_cons (ps_asg (pe_call GA (hr.mono (by decide)) rfl mA kA bA .nil pass0 (pa_cons (pv 1) pa_nil)) (pg_tup rfl (pgs_cons (pg_name (i := 3) scLaw.nd rfl (Or.inr rfl)) (pgs_cons (pg_name (i := 4) scLaw.nd rfl (Or.inr rfl)) (pgs_cons (pg_name (i := 5) scLaw.nd rfl (Or.inl rfl)) pgs_nil)))))
        (pss_cons pA
        (pss_cons pC
        (pss_cons (ps_setLc (i := 10) (te := canE w K (fun _ H' v d => Rep w K H' v d) fShort) (g := canG w K [9] (gNm 9)) (tt := canT w K fYes) (own := [("_law_some", 9)]) rfl scLaw.nd rfl rfl (sw_true rfl rfl rfl (by decide +kernel))
            (pi_list (pe_call GR (hr.mono (by decide)) rfl mR kR bR .nil pass0 (pa_cons (pv 5) (pa_cons (pe_call GP (hr.mono (by decide)) rfl mP kP bP .nil pass0 (pa_cons (pv 1) (pa_cons (pe_lst (pa_cons pe_int (pa_cons pe_int (pa_cons pe_int pa_nil)))) pa_nil))) pa_nil))))
            (blkOk_by (N := nLaw) (sc := defScope sLaw) (own := [("_law_some", 9)]) (by decide +kernel)) (fun _ _ _ _ _ => can_g (dg_name (i := 9) scLaw.nd)) (fun _ _ _ _ _ => can_ts0) (fun _ _ _ _ _ => can_e (d_own oBy hr (da_cons (dv 3) (da_cons (dv 4) (da_cons (dv 9) da_nil))))))
        (pss_one pB))))))
      (pss_one (ps_ret pe_bl))), ?_⟩
    refine ⟨_, rfl, a, ns, 42, rfl, hS, by omega, fun d b H0 dv => ?_⟩
    refine ⟨2, rfl, by decide, by decide, for_range (n := 2) (fun i σ H' => σ.length = 17 ∧ σ[1]? = some (some (.ref d)) ∧ Dev H' d b) ⟨rfl, rfl, dv⟩ (fun i σ H1 hi hI => ?_) (fun σ H1 hI => q H1)⟩
    obtain ⟨hl1, h1, d1⟩ := hI
    have g1 : ∀ (x : Option V), (σ.set 2 x)[1]? = some (some (.ref d)) := fun x => by rw [List.getElem?_set_ne (by decide)]; exact h1
    refine ⟨_, g1 _, d, b, rfl, d1, fun v r1 r2 m1 m2 t H2 hr1 hr2 a1 a2 a3 a4 a5 a6 d2 rv => ?_⟩
    cases rv with
    | @tup ad vs _ hs rp =>
      cases rp with
      | @cons v1 _ _ _ rp1 rp =>
        cases rp with
        | @cons v2 _ _ _ rp2 rp =>
          cases rp with
          | @cons v3 _ _ _ rp3 rp =>
            cases rp
            refine ⟨ad, _, rfl, hs, rfl, v1, _, rfl, v2, _, rfl, v3, _, rfl, rfl, ?_⟩
            have P3 := fun m hm => PL d r1 r2 m1 m2 t m hr1 hr2 a1 a2 a3 a4 a5 a6 hm
            obtain ⟨σA, _, _, _, eA, eC, nA, iA, jA, _⟩ := (P3 3 (.inl rfl)).ok
            have rl0 : DRel w K H2 (tst d (kD r1 m1) (kD r2 m2) (.int t)) ((((σ.set 2 (some (.int (0 + (i : Int))))).set 3 (some v1)).set 4 (some v2)).set 5 (some v3)) H2 := by
              refine tst_rel (by rw [List.length_set, List.length_set, List.length_set, List.length_set]; exact hl1) ?_ ?_ ?_ ?_ rp1 rp2 rp3
              · rw [List.getElem?_set_ne (by decide), List.getElem?_set_ne (by decide), List.getElem?_set_ne (by decide)]; exact g1 _
              · rw [List.getElem?_set_ne (by decide), List.getElem?_set_ne (by decide), List.getElem?_set_self (by rw [List.length_set, hl1]; decide)]
              · rw [List.getElem?_set_ne (by decide), List.getElem?_set_self (by rw [List.length_set, List.length_set, hl1]; decide)]
              · rw [List.getElem?_set_self (by rw [List.length_set, List.length_set, List.length_set, hl1]; decide)]
            refine qA H2 _ _ H2 _ _ rl0 eA fun σV3 H3 rl3 => ?_
            refine qC H2 _ _ H3 _ _ rl3 eC fun σV4 H4 rl4 => ?_
            have d4 : Dev H4 d b := d2.same rl4.same
            obtain ⟨z5, y5, q5⟩ := rl4.im jA
            cases q5
            obtain ⟨z1, y1, q1⟩ := rl4.im iA
            cases q1
            refine ⟨_, y5, _, y1, (by rw [sizeLine_eq]; show (3 : Nat) ≤ 16777216; decide), fun l hl' => ?_⟩
            obtain ⟨st, kk, cs, w1, w2, w3⟩ := id d4
            have s4 := upd_same_of (o := .lst [.int 3, .int 3, .int 4]) hl'
            have d5 := d4.same s4
            refine ⟨d, b, l, _, rfl, d5, upd_same, (ne_of_none w1 hl').symm, (ne_of_none w2 hl').symm, by decide, by decide, fun j x H5 hx d6 s6 => ?_⟩
            obtain ⟨m, hm, rfl⟩ : ∃ m : Int, (m = 3 ∨ m = 4) ∧ x = V.int m := by
              have := List.mem_of_getElem? hx
              simp at this
              rcases this with h | h
              · exact ⟨3, .inl rfl, h⟩
              · exact ⟨4, .inr rfl, h⟩
            obtain ⟨σA', σB, ds, xs, eA', eC', nA', iA', jA', eR, hds, eL, eB, iB, lB⟩ := (P3 m hm).ok
            rw [eA] at eA'
            cases eA'
            have k45 : Kept H4 H5 := (Kept.same s4).trans (s6.kept d5)
            refine ⟨[.int t, .int m], .lst ds, .cons (.int t) (.cons (.int m) .nil), rfl, eR, fun v H6 s56 rv => ?_⟩
            have rl6 : DRel w K H6 σA σV4 H6 := rl4.again (k45.trans (.same s56)) nA
            have d7 : Dev H6 d b := d6.same s56
            cases rv with
            | @lst av ov vs' _ hv rvs =>
              refine ⟨av, rfl, ⟨_, .inl (.inr ⟨_, hv⟩)⟩, ?_⟩
              show tLc (fun _ H R => R (Itl K av) H) (canG w K [9] (gNm 9)) (canT w K fYes) (canE w K (fun _ H' v d => Rep w K H' v d) fShort) [9] σV4 H6 (fun x H' => gName 10 x σV4 H' _)
              refine lc_read (fi := fun _ => some ds) (G := H6) (σD := σA) (m := .lst xs) (fun R ds' e k => ?_) rl6 ?_ fun p H7 s67 np rp => ?_
              · cases e
                exact k _ _ (Same.refl _) (wlk_list hv rvs)
              · unfold fLc
                rw [Option.bind_some, if_pos hds, eL]
                rfl
              · refine qB H6 _ _ H7 _ _ (rl6.setNew s67 np rp 10) eB fun σV8 H8 rl8 => ?_
                obtain ⟨z8, y8, q8⟩ := rl8.im iB
                cases q8
                exact ⟨by rw [← rl8.len]; exact lB, y8, d7.same rl8.same⟩
end
end Deep
set_option maxRecDepth 100000
set_option maxHeartbeats 4000000
namespace Deep
open PySem PySem.Spec PyProof.Rows L2
theorem all_mk (PL : Plain) {l : PySem.W.OpenLaw} {w : World} {K : PySem.W.Frag} {h : Heap} {mg : Str → Option Value} {fa : Addr} (X : K.In h) (G : h.Ns mainGlobals mg) (hfa : mg "law" = some (.ref fa))
    {t1 t2 t3 t4 t5 t6 t7 t8 t9 u1 u2 u3 u4 u5 : Tok} {aR : Addr} {odR : Option Addr} {slR : Array (Option Value)} {nR : Nat}
    {f0 : Addr} {od0 an0 : Option Addr} {sl0 : Array (Option Value)} {oc0 kV0 dc0 pm0 cd0 ct0 : Value}
    {f1 : Addr} {od1 an1 : Option Addr} {sl1 : Array (Option Value)} {oc1 kV1 dc1 pm1 cd1 ct1 : Value}
    {f2 : Addr} {od2 an2 : Option Addr} {sl2 : Array (Option Value)} {oc2 kV2 dc2 pm2 cd2 ct2 : Value}
    {f3 : Addr} {od3 an3 : Option Addr} {sl3 : Array (Option Value)} {oc3 kV3 dc3 pm3 cd3 ct3 : Value}
    {f4 : Addr} {od4 an4 : Option Addr} {sl4 : Array (Option Value)} {oc4 kV4 dc4 pm4 cd4 ct4 : Value}
    {f5 : Addr} {od5 an5 : Option Addr} {sl5 : Array (Option Value)} {oc5 kV5 dc5 pm5 cd5 ct5 : Value}
    {f6 : Addr} {od6 an6 : Option Addr} {sl6 : Array (Option Value)} {oc6 kV6 dc6 pm6 cd6 ct6 : Value}
    {f7 : Addr} {od7 an7 : Option Addr} {sl7 : Array (Option Value)} {oc7 kV7 dc7 pm7 cd7 ct7 : Value}
    {f8 : Addr} {od8 an8 : Option Addr} {sl8 : Array (Option Value)} {oc8 kV8 dc8 pm8 cd8 ct8 : Value}
    {f9 : Addr} {od9 an9 : Option Addr} {sl9 : Array (Option Value)} {oc9 kV9 dc9 pm9 cd9 ct9 : Value}
    {f10 : Addr} {od10 an10 : Option Addr} {sl10 : Array (Option Value)} {oc10 kV10 dc10 pm10 cd10 ct10 : Value}
    {f11 : Addr} {od11 an11 : Option Addr} {sl11 : Array (Option Value)} {oc11 kV11 dc11 pm11 cd11 ct11 : Value}
    {f12 : Addr} {od12 an12 : Option Addr} {sl12 : Array (Option Value)} {oc12 kV12 dc12 pm12 cd12 ct12 : Value}
    {f13 : Addr} {od13 an13 : Option Addr} {sl13 : Array (Option Value)} {oc13 kV13 dc13 pm13 cd13 ct13 : Value}
    {f14 : Addr} {od14 an14 : Option Addr} {sl14 : Array (Option Value)} {oc14 kV14 dc14 pm14 cd14 ct14 : Value}
    {f15 : Addr} {od15 an15 : Option Addr} {sl15 : Array (Option Value)} {oc15 kV15 dc15 pm15 cd15 ct15 : Value}
    {f16 : Addr} {od16 an16 : Option Addr} {sl16 : Array (Option Value)} {oc16 kV16 dc16 pm16 cd16 ct16 : Value}
    {f17 : Addr} {od17 an17 : Option Addr} {sl17 : Array (Option Value)} {oc17 kV17 dc17 pm17 cd17 ct17 : Value}
    {f18 : Addr} {od18 an18 : Option Addr} {sl18 : Array (Option Value)} {oc18 kV18 dc18 pm18 cd18 ct18 : Value}
    {f19 : Addr} {od19 an19 : Option Addr} {sl19 : Array (Option Value)} {oc19 kV19 dc19 pm19 cd19 ct19 : Value}
    {f20 : Addr} {od20 an20 : Option Addr} {sl20 : Array (Option Value)} {oc20 kV20 dc20 pm20 cd20 ct20 : Value}
    {f21 : Addr} {od21 an21 : Option Addr} {sl21 : Array (Option Value)} {oc21 kV21 dc21 pm21 cd21 ct21 : Value}
    {f22 : Addr} {od22 an22 : Option Addr} {sl22 : Array (Option Value)} {oc22 kV22 dc22 pm22 cd22 ct22 : Value}
    {f23 : Addr} {od23 an23 : Option Addr} {sl23 : Array (Option Value)} {oc23 kV23 dc23 pm23 cd23 ct23 : Value}
    {f24 : Addr} {od24 an24 : Option Addr} {sl24 : Array (Option Value)} {oc24 kV24 dc24 pm24 cd24 ct24 : Value}
    {f25 : Addr} {od25 an25 : Option Addr} {sl25 : Array (Option Value)} {oc25 kV25 dc25 pm25 cd25 ct25 : Value}
    {f26 : Addr} {od26 an26 : Option Addr} {sl26 : Array (Option Value)} {oc26 kV26 dc26 pm26 cd26 ct26 : Value}
    {f27 : Addr} {od27 an27 : Option Addr} {sl27 : Array (Option Value)} {oc27 kV27 dc27 pm27 cd27 ct27 : Value}
    (a0 : PySem.W.nsIn K mainGlobals "is_count" = some (some (.ref f0)))
    (l0 : K.lookup f0 = some ⟨oc0, od0, .func (PySem.W.fnOf "is_count" "is_count" (defArgs sIsCount) (defBody sIsCount) (defScope sIsCount) .none kV0 dc0 pm0 an0 cd0 ct0), sl0⟩)
    (c0 : PySem.W.codeIn K cd0 "is_count" = true) (k0 : PySem.W.keepIn K (.ref f0) = true)
    (a1 : PySem.W.nsIn K mainGlobals "need_shelf" = some (some (.ref f1)))
    (l1 : K.lookup f1 = some ⟨oc1, od1, .func (PySem.W.fnOf "need_shelf" "need_shelf" (defArgs sNeedShelf) (defBody sNeedShelf) (defScope sNeedShelf) .none kV1 dc1 pm1 an1 cd1 ct1), sl1⟩)
    (c1 : PySem.W.codeIn K cd1 "need_shelf" = true) (k1 : PySem.W.keepIn K (.ref f1) = true)
    (a2 : PySem.W.nsIn K mainGlobals "shelf_begin" = some (some (.ref f2)))
    (l2 : K.lookup f2 = some ⟨oc2, od2, .func (PySem.W.fnOf "shelf_begin" "shelf_begin" (defArgs sBegin) (defBody sBegin) (defScope sBegin) .none kV2 dc2 pm2 an2 cd2 ct2), sl2⟩)
    (c2 : PySem.W.codeIn K cd2 "shelf_begin" = true) (k2 : PySem.W.keepIn K (.ref f2) = true)
    (a3 : PySem.W.nsIn K mainGlobals "shelf_next_plain" = some (some (.ref f3)))
    (l3 : K.lookup f3 = some ⟨oc3, od3, .func (PySem.W.fnOf "shelf_next_plain" "shelf_next_plain" (defArgs sPlain) (defBody sPlain) (defScope sPlain) .none kV3 dc3 pm3 an3 cd3 ct3), sl3⟩)
    (c3 : PySem.W.codeIn K cd3 "shelf_next_plain" = true) (k3 : PySem.W.keepIn K (.ref f3) = true)
    (a4 : PySem.W.nsIn K mainGlobals "shelf_next_seldom" = some (some (.ref f4)))
    (l4 : K.lookup f4 = some ⟨oc4, od4, .func (PySem.W.fnOf "shelf_next_seldom" "shelf_next_seldom" (defArgs sSeldom) (defBody sSeldom) (defScope sSeldom) .none kV4 dc4 pm4 an4 cd4 ct4), sl4⟩)
    (c4 : PySem.W.codeIn K cd4 "shelf_next_seldom" = true) (k4 : PySem.W.keepIn K (.ref f4) = true)
    (a5 : PySem.W.nsIn K mainGlobals "shelf_lots_behind" = some (some (.ref f5)))
    (l5 : K.lookup f5 = some ⟨oc5, od5, .func (PySem.W.fnOf "shelf_lots_behind" "shelf_lots_behind" (defArgs sLots) (defBody sLots) (defScope sLots) .none kV5 dc5 pm5 an5 cd5 ct5), sl5⟩)
    (c5 : PySem.W.codeIn K cd5 "shelf_lots_behind" = true) (k5 : PySem.W.keepIn K (.ref f5) = true)
    (a6 : PySem.W.nsIn K mainGlobals "shelf_next_best" = some (some (.ref f6)))
    (l6 : K.lookup f6 = some ⟨oc6, od6, .func (PySem.W.fnOf "shelf_next_best" "shelf_next_best" (defArgs sBest) (defBody sBest) (defScope sBest) .none kV6 dc6 pm6 an6 cd6 ct6), sl6⟩)
    (c6 : PySem.W.codeIn K cd6 "shelf_next_best" = true) (k6 : PySem.W.keepIn K (.ref f6) = true)
    (a7 : PySem.W.nsIn K mainGlobals "shelf_next" = some (some (.ref f7)))
    (l7 : K.lookup f7 = some ⟨oc7, od7, .func (PySem.W.fnOf "shelf_next" "shelf_next" (defArgs sNext) (defBody sNext) (defScope sNext) .none kV7 dc7 pm7 an7 cd7 ct7), sl7⟩)
    (c7 : PySem.W.codeIn K cd7 "shelf_next" = true) (k7 : PySem.W.keepIn K (.ref f7) = true)
    (a8 : PySem.W.nsIn K mainGlobals "need_things" = some (some (.ref f8)))
    (l8 : K.lookup f8 = some ⟨oc8, od8, .func (PySem.W.fnOf "need_things" "need_things" (defArgs sNeedThings) (defBody sNeedThings) (defScope sNeedThings) .none kV8 dc8 pm8 an8 cd8 ct8), sl8⟩)
    (c8 : PySem.W.codeIn K cd8 "need_things" = true) (k8 : PySem.W.keepIn K (.ref f8) = true)
    (a9 : PySem.W.nsIn K mainGlobals "lead_begin" = some (some (.ref f9)))
    (l9 : K.lookup f9 = some ⟨oc9, od9, .func (PySem.W.fnOf "lead_begin" "lead_begin" (defArgs sLBegin) (defBody sLBegin) (defScope sLBegin) .none kV9 dc9 pm9 an9 cd9 ct9), sl9⟩)
    (c9 : PySem.W.codeIn K cd9 "lead_begin" = true) (k9 : PySem.W.keepIn K (.ref f9) = true)
    (a10 : PySem.W.nsIn K mainGlobals "lead_next" = some (some (.ref f10)))
    (l10 : K.lookup f10 = some ⟨oc10, od10, .func (PySem.W.fnOf "lead_next" "lead_next" (defArgs sLNext) (defBody sLNext) (defScope sLNext) .none kV10 dc10 pm10 an10 cd10 ct10), sl10⟩)
    (c10 : PySem.W.codeIn K cd10 "lead_next" = true) (k10 : PySem.W.keepIn K (.ref f10) = true)
    (a11 : PySem.W.nsIn K mainGlobals "lead_graph" = some (some (.ref f11)))
    (l11 : K.lookup f11 = some ⟨oc11, od11, .func (PySem.W.fnOf "lead_graph" "lead_graph" (defArgs sGraph) (defBody sGraph) (defScope sGraph) .none kV11 dc11 pm11 an11 cd11 ct11), sl11⟩)
    (c11 : PySem.W.codeIn K cd11 "lead_graph" = true) (k11 : PySem.W.keepIn K (.ref f11) = true)
    (a12 : PySem.W.nsIn K mainGlobals "lead_ring" = some (some (.ref f12)))
    (l12 : K.lookup f12 = some ⟨oc12, od12, .func (PySem.W.fnOf "lead_ring" "lead_ring" (defArgs sRing) (defBody sRing) (defScope sRing) .none kV12 dc12 pm12 an12 cd12 ct12), sl12⟩)
    (c12 : PySem.W.codeIn K cd12 "lead_ring" = true) (k12 : PySem.W.keepIn K (.ref f12) = true)
    (a13 : PySem.W.nsIn K mainGlobals "lead_values" = some (some (.ref f13)))
    (l13 : K.lookup f13 = some ⟨oc13, od13, .func (PySem.W.fnOf "lead_values" "lead_values" (defArgs sValues) (defBody sValues) (defScope sValues) .none kV13 dc13 pm13 an13 cd13 ct13), sl13⟩)
    (c13 : PySem.W.codeIn K cd13 "lead_values" = true) (k13 : PySem.W.keepIn K (.ref f13) = true)
    (a14 : PySem.W.nsIn K mainGlobals "lead_asked" = some (some (.ref f14)))
    (l14 : K.lookup f14 = some ⟨oc14, od14, .func (PySem.W.fnOf "lead_asked" "lead_asked" (defArgs sAsked) (defBody sAsked) (defScope sAsked) .none kV14 dc14 pm14 an14 cd14 ct14), sl14⟩)
    (c14 : PySem.W.codeIn K cd14 "lead_asked" = true) (k14 : PySem.W.keepIn K (.ref f14) = true)
    (a15 : PySem.W.nsIn K mainGlobals "lead" = some (some (.ref f15)))
    (l15 : K.lookup f15 = some ⟨oc15, od15, .func (PySem.W.fnOf "lead" "lead" (defArgs sLead) (defBody sLead) (defScope sLead) .none kV15 dc15 pm15 an15 cd15 ct15), sl15⟩)
    (c15 : PySem.W.codeIn K cd15 "lead" = true) (k15 : PySem.W.keepIn K (.ref f15) = true)
    (a16 : PySem.W.nsIn K mainGlobals "lead_ways" = some (some (.ref f16)))
    (l16 : K.lookup f16 = some ⟨oc16, od16, .func (PySem.W.fnOf "lead_ways" "lead_ways" (defArgs sWays) (defBody sWays) (defScope sWays) .none kV16 dc16 pm16 an16 cd16 ct16), sl16⟩)
    (c16 : PySem.W.codeIn K cd16 "lead_ways" = true) (k16 : PySem.W.keepIn K (.ref f16) = true)
    (a17 : PySem.W.nsIn K mainGlobals "lead_row" = some (some (.ref f17)))
    (l17 : K.lookup f17 = some ⟨oc17, od17, .func (PySem.W.fnOf "lead_row" "lead_row" (defArgs sRow) (defBody sRow) (defScope sRow) .none kV17 dc17 pm17 an17 cd17 ct17), sl17⟩)
    (c17 : PySem.W.codeIn K cd17 "lead_row" = true) (k17 : PySem.W.keepIn K (.ref f17) = true)
    (a18 : PySem.W.nsIn K mainGlobals "lead_loop" = some (some (.ref f18)))
    (l18 : K.lookup f18 = some ⟨oc18, od18, .func (PySem.W.fnOf "lead_loop" "lead_loop" (defArgs sLoop) (defBody sLoop) (defScope sLoop) .none kV18 dc18 pm18 an18 cd18 ct18), sl18⟩)
    (c18 : PySem.W.codeIn K cd18 "lead_loop" = true) (k18 : PySem.W.keepIn K (.ref f18) = true)
    (a19 : PySem.W.nsIn K mainGlobals "_law_shelf_out" = some (some (.ref f19)))
    (l19 : K.lookup f19 = some ⟨oc19, od19, .func (PySem.W.fnOf "_law_shelf_out" "_law_shelf_out" (defArgs sOut) (defBody sOut) (defScope sOut) .none kV19 dc19 pm19 an19 cd19 ct19), sl19⟩)
    (c19 : PySem.W.codeIn K cd19 "_law_shelf_out" = true) (k19 : PySem.W.keepIn K (.ref f19) = true)
    (a20 : PySem.W.nsIn K mainGlobals "_law_shelf_told" = some (some (.ref f20)))
    (l20 : K.lookup f20 = some ⟨oc20, od20, .func (PySem.W.fnOf "_law_shelf_told" "_law_shelf_told" (defArgs sTold) (defBody sTold) (defScope sTold) .none kV20 dc20 pm20 an20 cd20 ct20), sl20⟩)
    (c20 : PySem.W.codeIn K cd20 "_law_shelf_told" = true) (k20 : PySem.W.keepIn K (.ref f20) = true)
    (a21 : PySem.W.nsIn K mainGlobals "_law_lead_by" = some (some (.ref f21)))
    (l21 : K.lookup f21 = some ⟨oc21, od21, .func (PySem.W.fnOf "_law_lead_by" "_law_lead_by" (defArgs sBy) (defBody sBy) (defScope sBy) .none kV21 dc21 pm21 an21 cd21 ct21), sl21⟩)
    (c21 : PySem.W.codeIn K cd21 "_law_lead_by" = true) (k21 : PySem.W.keepIn K (.ref f21) = true)
    (a22 : PySem.W.nsIn K mainGlobals "_law_lead_rows" = some (some (.ref f22)))
    (l22 : K.lookup f22 = some ⟨oc22, od22, .func (PySem.W.fnOf "_law_lead_rows" "_law_lead_rows" (defArgs sRows) (defBody sRows) (defScope sRows) .none kV22 dc22 pm22 an22 cd22 ct22), sl22⟩)
    (c22 : PySem.W.codeIn K cd22 "_law_lead_rows" = true) (k22 : PySem.W.keepIn K (.ref f22) = true)
    (a23 : PySem.W.nsIn K mainGlobals "_law_mix" = some (some (.ref f23)))
    (l23 : K.lookup f23 = some ⟨oc23, od23, .func (PySem.W.fnOf "_law_mix" "_law_mix" (defArgs sMix) (defBody sMix) (defScope sMix) .none kV23 dc23 pm23 an23 cd23 ct23), sl23⟩)
    (c23 : PySem.W.codeIn K cd23 "_law_mix" = true) (k23 : PySem.W.keepIn K (.ref f23) = true)
    (a24 : PySem.W.nsIn K mainGlobals "_law_next" = some (some (.ref f24)))
    (l24 : K.lookup f24 = some ⟨oc24, od24, .func (PySem.W.fnOf "_law_next" "_law_next" (defArgs sNxt) (defBody sNxt) (defScope sNxt) .none kV24 dc24 pm24 an24 cd24 ct24), sl24⟩)
    (c24 : PySem.W.codeIn K cd24 "_law_next" = true) (k24 : PySem.W.keepIn K (.ref f24) = true)
    (a25 : PySem.W.nsIn K mainGlobals "_law_pick" = some (some (.ref f25)))
    (l25 : K.lookup f25 = some ⟨oc25, od25, .func (PySem.W.fnOf "_law_pick" "_law_pick" (defArgs sPick) (defBody sPick) (defScope sPick) .none kV25 dc25 pm25 an25 cd25 ct25), sl25⟩)
    (c25 : PySem.W.codeIn K cd25 "_law_pick" = true) (k25 : PySem.W.keepIn K (.ref f25) = true)
    (a26 : PySem.W.nsIn K mainGlobals "_law_lead_asked" = some (some (.ref f26)))
    (l26 : K.lookup f26 = some ⟨oc26, od26, .func (PySem.W.fnOf "_law_lead_asked" "_law_lead_asked" (defArgs sAsk) (defBody sAsk) (defScope sAsk) .none kV26 dc26 pm26 an26 cd26 ct26), sl26⟩)
    (c26 : PySem.W.codeIn K cd26 "_law_lead_asked" = true) (k26 : PySem.W.keepIn K (.ref f26) = true)
    (a27 : PySem.W.nsIn K mainGlobals "law" = some (some (.ref f27)))
    (l27 : K.lookup f27 = some ⟨oc27, od27, .func (PySem.W.fnOf "law" "law" (defArgs sLaw) (defBody sLaw) (defScope sLaw) .none kV27 dc27 pm27 an27 cd27 ct27), sl27⟩)
    (c27 : PySem.W.codeIn K cd27 "law" = true) (k27 : PySem.W.keepIn K (.ref f27) = true)
    (x0 : PySem.W.nsIn K mainGlobals "LATELY" = some (some (.str "lately" t1)))
    (x1 : PySem.W.nsIn K mainGlobals "NEWEST" = some (some (.str "newest" t2)))
    (x2 : PySem.W.nsIn K mainGlobals "SELDOM" = some (some (.str "seldom" t3)))
    (x3 : PySem.W.nsIn K mainGlobals "BEST" = some (some (.str "best" t4)))
    (x4 : PySem.W.nsIn K mainGlobals "SHELF_MOST_ROOM" = some (some (.int 3 t5)))
    (x5 : PySem.W.nsIn K mainGlobals "SHELF_MOST_SEEN" = some (some (.int 2 t6)))
    (x6 : PySem.W.nsIn K mainGlobals "SHELF_MANY" = some (some (.int 2 t7)))
    (x7 : PySem.W.nsIn K mainGlobals "LEAD_MOST_THINGS" = some (some (.int 4 t8)))
    (x8 : PySem.W.nsIn K mainGlobals "LEAD_MOST_STATES" = some (some (.int 3000 t9)))
    (x9 : PySem.W.nsIn K mainGlobals "SHELF_RULES" = some (some (.ref aR)))
    (lR : K.lookup aR = some ⟨.type "tuple", odR, .seq #[.str "eldest" u1, .str "lately" u2, .str "newest" u3, .str "seldom" u4, .str "best" u5] nR, slR⟩)
    (z0 : PySem.W.nsIn K mainGlobals "len" = some none)
    (z1 : PySem.W.nsIn K mainGlobals "max" = some none)
    (z2 : PySem.W.nsIn K mainGlobals "min" = some none)
    (z3 : PySem.W.nsIn K mainGlobals "sorted" = some none)
    (z4 : PySem.W.nsIn K mainGlobals "list" = some none)
    (z5 : PySem.W.nsIn K mainGlobals "tuple" = some none)
    (z6 : PySem.W.nsIn K mainGlobals "int" = some none)
    (z7 : PySem.W.nsIn K mainGlobals "bool" = some none)
    (z8 : PySem.W.nsIn K mainGlobals "str" = some none)
    (z9 : PySem.W.nsIn K mainGlobals "range" = some none)
    (z10 : PySem.W.nsIn K mainGlobals "enumerate" = some none)
    (z11 : PySem.W.nsIn K mainGlobals "isinstance" = some none) :
    ∃ fd : FuncData, (∀ (s : Shared) (v : Value), BindsTo s fd ⟨[v], []⟩ [("_law_script", v)]) ∧ ∀ base : Heap, K.In base → base.Ns mainGlobals mg → FnOk l.prog w K mg base CX0 8 fa fd ["_law_script"] (spLaw K) := by
  have e := hfa.symm.trans (PySem.W.mg_of X G a27)
  cases e
  have T : Nm mg := ⟨PySem.W.mg_none_of X G z0, PySem.W.mg_none_of X G z1, PySem.W.mg_none_of X G z2, PySem.W.mg_none_of X G z3, PySem.W.mg_none_of X G z4, PySem.W.mg_none_of X G z5, PySem.W.mg_none_of X G z6, PySem.W.mg_none_of X G z7, PySem.W.mg_none_of X G z8, PySem.W.mg_none_of X G z9, PySem.W.mg_none_of X G z10, PySem.W.mg_none_of X G z11⟩
  have C : Cs K mg := ⟨t1, t2, t3, t4, t5, t6, t7, t8, t9, u1, aR, PySem.W.mg_of X G x0, PySem.W.mg_of X G x1, PySem.W.mg_of X G x2, PySem.W.mg_of X G x3, PySem.W.mg_of X G x4, PySem.W.mg_of X G x5, PySem.W.mg_of X G x6, PySem.W.mg_of X G x7, PySem.W.mg_of X G x8, PySem.W.mg_of X G x9, fun H => .inr ⟨_, _, _, lR, rfl, rfl, (by rw [sizeLine_eq]; show (5 : Nat) ≤ 16777216; decide), .cons ⟨_, rfl⟩ (.cons ⟨_, rfl⟩ (.cons ⟨_, rfl⟩ (.cons ⟨_, rfl⟩ (.cons ⟨_, rfl⟩ .nil))))⟩⟩
  have F0 := fun_mk (st := sIsCount) l0 c0 k0
  have b0 := F0.binds (ps := ["thing", "low", "high"]) fun _ _ _ _ _ _ us hl => match us, hl with | [_, _, _], _ => rfl
  have F1 := fun_mk (st := sNeedShelf) l1 c1 k1
  have b1 := F1.binds (ps := ["thing"]) fun _ _ _ _ _ _ us hl => match us, hl with | [_], _ => rfl
  have F2 := fun_mk (st := sBegin) l2 c2 k2
  have b2 := F2.binds (ps := ["kind"]) fun _ _ _ _ _ _ us hl => match us, hl with | [_], _ => rfl
  have F3 := fun_mk (st := sPlain) l3 c3 k3
  have b3 := F3.binds (ps := ["kind", "state", "asked"]) fun _ _ _ _ _ _ us hl => match us, hl with | [_, _, _], _ => rfl
  have F4 := fun_mk (st := sSeldom) l4 c4 k4
  have b4 := F4.binds (ps := ["kind", "state", "asked"]) fun _ _ _ _ _ _ us hl => match us, hl with | [_, _, _], _ => rfl
  have F5 := fun_mk (st := sLots) l5 c5 k5
  have b5 := F5.binds (ps := ["kind", "lot", "asked"]) fun _ _ _ _ _ _ us hl => match us, hl with | [_, _, _], _ => rfl
  have F6 := fun_mk (st := sBest) l6 c6 k6
  have b6 := F6.binds (ps := ["kind", "state", "asked"]) fun _ _ _ _ _ _ us hl => match us, hl with | [_, _, _], _ => rfl
  have F7 := fun_mk (st := sNext) l7 c7 k7
  have b7 := F7.binds (ps := ["kind", "state", "asked"]) fun _ _ _ _ _ _ us hl => match us, hl with | [_, _, _], _ => rfl
  have F8 := fun_mk (st := sNeedThings) l8 c8 k8
  have b8 := F8.binds (ps := ["thing"]) fun _ _ _ _ _ _ us hl => match us, hl with | [_], _ => rfl
  have F9 := fun_mk (st := sLBegin) l9 c9 k9
  have b9 := F9.binds (ps := ["one", "other"]) fun _ _ _ _ _ _ us hl => match us, hl with | [_, _], _ => rfl
  have F10 := fun_mk (st := sLNext) l10 c10 k10
  have b10 := F10.binds (ps := ["one", "other", "pair", "asked"]) fun _ _ _ _ _ _ us hl => match us, hl with | [_, _, _, _], _ => rfl
  have F11 := fun_mk (st := sGraph) l11 c11 k11
  have b11 := F11.binds (ps := ["one", "other", "things"]) fun _ _ _ _ _ _ us hl => match us, hl with | [_, _, _], _ => rfl
  have F12 := fun_mk (st := sRing) l12 c12 k12
  have b12 := F12.binds (ps := ["aheads"]) fun _ _ _ _ _ _ us hl => match us, hl with | [_], _ => rfl
  have F13 := fun_mk (st := sValues) l13 c13 k13
  have b13 := F13.binds (ps := ["graph", "begin"]) fun _ _ _ _ _ _ us hl => match us, hl with | [_, _], _ => rfl
  have F14 := fun_mk (st := sAsked) l14 c14 k14
  have b14 := F14.binds (ps := ["one", "other", "things"]) fun _ _ _ _ _ _ us hl => match us, hl with | [_, _, _], _ => rfl
  have F15 := fun_mk (st := sLead) l15 c15 k15
  have b15 := F15.binds (ps := ["one", "other", "things"]) fun _ _ _ _ _ _ us hl => match us, hl with | [_, _, _], _ => rfl
  have F16 := fun_mk (st := sWays) l16 c16 k16
  have b16 := F16.binds (ps := ["graph", "begin", "values"]) fun _ _ _ _ _ _ us hl => match us, hl with | [_, _, _], _ => rfl
  have F17 := fun_mk (st := sRow) l17 c17 k17
  have b17 := F17.binds (ps := ["one", "other", "things"]) fun _ _ _ _ _ _ us hl => match us, hl with | [_, _, _], _ => rfl
  have F18 := fun_mk (st := sLoop) l18 c18 k18
  have b18 := F18.binds (ps := ["one", "other", "things"]) fun _ _ _ _ _ _ us hl => match us, hl with | [_, _, _], _ => rfl
  have F19 := fun_mk (st := sOut) l19 c19 k19
  have b19 := F19.binds (ps := ["_law_kind", "_law_row", "_law_at", "_law_come", "_law_used", "_law_many"]) fun _ _ _ _ _ _ us hl => match us, hl with | [_, _, _, _, _, _], _ => rfl
  have F20 := fun_mk (st := sTold) l20 c20 k20
  have b20 := F20.binds (ps := ["_law_kind", "_law_row"]) fun _ _ _ _ _ _ us hl => match us, hl with | [_, _], _ => rfl
  have F21 := fun_mk (st := sBy) l21 c21 k21
  have b21 := F21.binds (ps := ["_law_one", "_law_other", "_law_row"]) fun _ _ _ _ _ _ us hl => match us, hl with | [_, _, _], _ => rfl
  have F22 := fun_mk (st := sRows) l22 c22 k22
  have b22 := F22.binds (ps := ["_law_things", "_law_many"]) fun _ _ _ _ _ _ us hl => match us, hl with | [_, _], _ => rfl
  have F23 := fun_mk (st := sMix) l23 c23 k23
  have b23 := F23.binds (ps := ["_law_script", "_law_seed"]) fun _ _ _ _ _ _ us hl => match us, hl with | [_, _], _ => rfl
  have F24 := fun_mk (st := sNxt) l24 c24 k24
  have b24 := F24.binds (ps := ["_law_h", "_law_cap"]) fun _ _ _ _ _ _ us hl => match us, hl with | [_, _], _ => rfl
  have F25 := fun_mk (st := sPick) l25 c25 k25
  have b25 := F25.binds (ps := ["_law_h", "_law_things"]) fun _ _ _ _ _ _ us hl => match us, hl with | [_, _], _ => rfl
  have F26 := fun_mk (st := sAsk) l26 c26 k26
  have b26 := F26.binds (ps := ["_law_h"]) fun _ _ _ _ _ _ us hl => match us, hl with | [_], _ => rfl
  have F27 := fun_mk (st := sLaw) l27 c27 k27
  refine ⟨PySem.W.fnOf "law" "law" (defArgs sLaw) (defBody sLaw) (defScope sLaw) .none kV27 dc27 pm27 an27 cd27 ct27, fun s v => .of_eq rfl, fun base _ _ => ?_⟩
  have oIsCount := pIsCount.2 (P := l.prog) (w := w) (K := K) (mg := mg) (base := base) F0 (PySem.W.mg_of X G a0) b0 T
  have oNeedShelf := pNeedShelf.2 (P := l.prog) (w := w) (K := K) (mg := mg) (base := base) F1 (PySem.W.mg_of X G a1) b1 C T oIsCount
  have oBegin := pBegin.2 (P := l.prog) (w := w) (K := K) (mg := mg) (base := base) F2 (PySem.W.mg_of X G a2) b2 C
  have oPlain := pPlain.2 (P := l.prog) (w := w) (K := K) (mg := mg) (base := base) F3 (PySem.W.mg_of X G a3) b3 C T
  have oSeldom := pSeldom.2 (P := l.prog) (w := w) (K := K) (mg := mg) (base := base) F4 (PySem.W.mg_of X G a4) b4 C T
  have oLots := pLots.2 (P := l.prog) (w := w) (K := K) (mg := mg) (base := base) F5 (PySem.W.mg_of X G a5) b5 T
  have oBest := pBest.2 (P := l.prog) (w := w) (K := K) (mg := mg) (base := base) F6 (PySem.W.mg_of X G a6) b6 T oLots
  have oNext := pNext.2 (P := l.prog) (w := w) (K := K) (mg := mg) (base := base) F7 (PySem.W.mg_of X G a7) b7 C oPlain oSeldom oBest
  have oNeedThings := pNeedThings.2 (P := l.prog) (w := w) (K := K) (mg := mg) (base := base) F8 (PySem.W.mg_of X G a8) b8 C oIsCount
  have oLBegin := pLBegin.2 (P := l.prog) (w := w) (K := K) (mg := mg) (base := base) F9 (PySem.W.mg_of X G a9) b9 oBegin
  have oLNext := pLNext.2 (P := l.prog) (w := w) (K := K) (mg := mg) (base := base) F10 (PySem.W.mg_of X G a10) b10 oNext
  have oGraph := pGraph.2 (P := l.prog) (w := w) (K := K) (mg := mg) (base := base) F11 (PySem.W.mg_of X G a11) b11 C T oLBegin oLNext
  have oRing := pRing.2 (P := l.prog) (w := w) (K := K) (mg := mg) (base := base) F12 (PySem.W.mg_of X G a12) b12 T
  have oValues := pValues.2 (P := l.prog) (w := w) (K := K) (mg := mg) (base := base) F13 (PySem.W.mg_of X G a13) b13 T oRing
  have oAsked := pAsked.2 (P := l.prog) (w := w) (K := K) (mg := mg) (base := base) F14 (PySem.W.mg_of X G a14) b14 oNeedShelf oNeedThings oGraph
  have oLead := pLead.2 (P := l.prog) (w := w) (K := K) (mg := mg) (base := base) F15 (PySem.W.mg_of X G a15) b15 T oAsked oValues oLBegin
  have oWays := pWays.2 (P := l.prog) (w := w) (K := K) (mg := mg) (base := base) F16 (PySem.W.mg_of X G a16) b16 T
  have oRow := pRow.2 (P := l.prog) (w := w) (K := K) (mg := mg) (base := base) F17 (PySem.W.mg_of X G a17) b17 T oAsked oValues oLBegin oWays
  have oLoop := pLoop.2 (P := l.prog) (w := w) (K := K) (mg := mg) (base := base) F18 (PySem.W.mg_of X G a18) b18 oAsked oValues oLBegin oWays
  have oOut := pOut.2 (P := l.prog) (w := w) (K := K) (mg := mg) (base := base) F19 (PySem.W.mg_of X G a19) b19 T
  have oTold := pTold.2 (P := l.prog) (w := w) (K := K) (mg := mg) (base := base) F20 (PySem.W.mg_of X G a20) b20 T oOut
  have oBy := pBy.2 (P := l.prog) (w := w) (K := K) (mg := mg) (base := base) F21 (PySem.W.mg_of X G a21) b21 T oTold
  have oRows := pRows.2 (P := l.prog) (w := w) (K := K) (mg := mg) (base := base) F22 (PySem.W.mg_of X G a22) b22 T
  have hMix : OwnH l.prog w K mg base "_law_mix" 1 ["_law_script", "_law_seed"] (spMix K) := ⟨_, _, ok_mix F23 T, PySem.W.mg_of X G a23, k23, b23⟩
  have hNxt : OwnH l.prog w K mg base "_law_next" 1 ["_law_h", "_law_cap"] spNxt := ⟨_, _, ok_next F24 T, PySem.W.mg_of X G a24, k24, b24⟩
  have hPick : OwnH l.prog w K mg base "_law_pick" 2 ["_law_h", "_law_things"] spPick := ⟨_, _, ok_pick F25 T hNxt, PySem.W.mg_of X G a25, k25, b25⟩
  have hAsk : OwnH l.prog w K mg base "_law_lead_asked" 3 ["_law_h"] (spAsk w K) := ⟨_, _, ok_ask F26 hNxt hPick, PySem.W.mg_of X G a26, k26, b26⟩
  exact ok_law PL F27 T hMix hPick hAsk oLead oRow oLoop oBy oRows
theorem walk {l : PySem.W.OpenLaw} {q : Program} {loose : List Str} {XP : (Str → Option Value) → Heap → Prop} {YP : World → Heap → Prop} {d : DefRec} {K : Params → PySem.W.Frag} (hn : l.most = some 63) (hdf : d.params.defaults = [])
    (hY : ∀ (w : World) (h : Heap), YP w h → (K w.params).In h)
    (F : ∀ (w : World) (mg : Str → Option Value) (fa : Addr) (h : Heap), (K w.params).In h → h.Ns mainGlobals mg → mg d.name = some (.ref fa) →
      ∃ fd : FuncData, (∀ (s : Shared) (u : Value), BindsTo s fd ⟨[u], []⟩ [("_law_script", u)]) ∧ ∀ base : Heap, (K w.params).In base → base.Ns mainGlobals mg → FnOk l.prog w (K w.params) mg base CX0 8 fa fd ["_law_script"] (spLaw (K w.params))) :
    PySem.W.WalkO q loose XP YP l.row.toRowW d [] (fun f vs => PySem.call f vs) :=
  L2.walk_of (n := 63) (k := 8) (x := "_law_script") (CX := fun _ => CX0) (sp := fun w => spLaw (K w.params)) hn (by decide) hdf ⟨rfl, by decide, by decide⟩ hY F (fun _ _ a ns hl _ hS => ⟨a, ns, rfl, hS, hl, fun _ => rfl⟩) fun _ _ _ _ _ z => z
end Deep
set_option maxRecDepth 100000
set_option maxHeartbeats 4000000
namespace Deep
open PySem PySem.Spec PyProof.Rows L2
/-! ### states as keys; keys by numbers -/
mutual
def pyK : NestedKey → PyData
  | .none => .none
  | .num i => .int i
  | .text x => .str x
  | .tup ks => .tuple (pyKs ks)
def pyKs : List NestedKey → List PyData
  | [] => []
  | k :: ks => pyK k :: pyKs ks
end
mutual
def noText : NestedKey → Bool
  | .none => true
  | .num _ => true
  | .text _ => false
  | .tup ks => noTexts ks
def noTexts : List NestedKey → Bool
  | [] => true
  | k :: ks => noText k && noTexts ks
end
mutual
theorem py_kd : ∀ k : NestedKey, (kd k).py = some (pyK k)
  | .none => by rw [kd, D.py, pyK]
  | .num i => by rw [kd, D.py, pyK]
  | .text x => by rw [kd, D.py, pyK]
  | .tup ks => by rw [kd, D.py, py_kds ks, pyK]; rfl
theorem py_kds : ∀ ks : List NestedKey, pys (kds ks) = some (pyKs ks)
  | [] => by rw [kds, pys, pyKs]
  | k :: ks => by rw [kds, pys, py_kd k, py_kds ks, pyKs]
end
mutual
theorem toKey_kd : ∀ k : NestedKey, toKey (kd k) = some k
  | .none => by rw [kd, toKey]
  | .num i => by rw [kd, toKey]
  | .text x => by rw [kd, toKey]
  | .tup ks => by rw [kd, toKey, toKeys_kds ks]; rfl
theorem toKeys_kds : ∀ ks : List NestedKey, toKeys (kds ks) = some ks
  | [] => by rw [kds, toKeys]
  | k :: ks => by rw [kds, toKeys, toKey_kd k, toKeys_kds ks]
end
mutual
theorem lay_k : ∀ k : NestedKey, noText k = true → (pyK k).canLay0 = true
  | .none, _ => by rw [pyK, PyData.canLay0]
  | .num i, _ => by rw [pyK, PyData.canLay0]
  | .text x, h => by rw [noText] at h; cases h
  | .tup ks, h => by rw [noText] at h; rw [pyK, PyData.canLay0]; exact lay_ks ks h
theorem lay_ks : ∀ ks : List NestedKey, noTexts ks = true → PyData.canLayAll0 (pyKs ks) = true
  | [], _ => by rw [pyKs, PyData.canLayAll0]
  | k :: ks, h => by
    rw [noTexts, Bool.and_eq_true] at h
    rw [pyKs, PyData.canLayAll0, lay_k k h.1, lay_ks ks h.2]
    rfl
end
mutual
theorem dep_k : ∀ k : NestedKey, (pyK k).depth ≤ k.depth
  | .none => by rw [pyK, PyData.depth]; exact Nat.zero_le _
  | .num i => by rw [pyK, PyData.depth]; exact Nat.zero_le _
  | .text x => by rw [pyK, PyData.depth]; exact Nat.zero_le _
  | .tup ks => by
    have := dep_ks ks
    rw [pyK, PyData.depth, NestedKey.depth]
    omega
theorem dep_ks : ∀ ks : List NestedKey, PyData.depthAll (pyKs ks) ≤ NestedKey.depthAll ks
  | [] => by rw [pyKs, PyData.depthAll]; exact Nat.zero_le _
  | k :: ks => by
    have h1 := dep_k k
    have h2 := dep_ks ks
    rw [pyKs, PyData.depthAll, NestedKey.depthAll]
    omega
end
mutual
theorem eqv_k : ∀ a b : NestedKey, PyData.eqv (pyK a) (pyK b) = NestedKey.beq a b
  | .none, .none => by simp [pyK, PyData.eqv, NestedKey.beq]
  | .none, .num _ => by simp [pyK, PyData.eqv, NestedKey.beq]
  | .none, .text _ => by simp [pyK, PyData.eqv, NestedKey.beq]
  | .none, .tup _ => by simp [pyK, PyData.eqv, NestedKey.beq]
  | .num _, .none => by simp [pyK, PyData.eqv, NestedKey.beq]
  | .num a, .num b => by simp only [pyK, PyData.eqv, NestedKey.beq]; rfl
  | .num _, .text _ => by simp [pyK, PyData.eqv, NestedKey.beq]
  | .num _, .tup _ => by simp [pyK, PyData.eqv, NestedKey.beq]
  | .text _, .none => by simp [pyK, PyData.eqv, NestedKey.beq]
  | .text _, .num _ => by simp [pyK, PyData.eqv, NestedKey.beq]
  | .text a, .text b => by
    simp only [pyK, PyData.eqv, NestedKey.beq]
    by_cases h : a = b
    · subst h; simp
    · simp [h]
  | .text _, .tup _ => by simp [pyK, PyData.eqv, NestedKey.beq]
  | .tup _, .none => by simp [pyK, PyData.eqv, NestedKey.beq]
  | .tup _, .num _ => by simp [pyK, PyData.eqv, NestedKey.beq]
  | .tup _, .text _ => by simp [pyK, PyData.eqv, NestedKey.beq]
  | .tup as, .tup bs => by rw [pyK, pyK, PyData.eqv, NestedKey.beq]; exact eqv_ks as bs
theorem eqv_ks : ∀ as bs : List NestedKey, PyData.eqvAll (pyKs as) (pyKs bs) = NestedKey.beqAll as bs
  | [], [] => by simp [pyKs, PyData.eqvAll, NestedKey.beqAll]
  | [], _ :: _ => by simp [pyKs, PyData.eqvAll, NestedKey.beqAll]
  | _ :: _, [] => by simp [pyKs, PyData.eqvAll, NestedKey.beqAll]
  | a :: as, b :: bs => by rw [pyKs, pyKs, PyData.eqvAll, NestedKey.beqAll, eqv_k a b, eqv_ks as bs]
end
structure Cod where
  key : Nat → NestedKey
  inj : ∀ a b, key a = key b → a = b
  tup : ∀ c, ∃ ks, key c = .tup ks
  dep : ∀ c, (key c).depth ≤ 8
  nt : ∀ c, noText (key c) = true
/-- equal numbers, fast -/
def eqN (a b : Nat) : Bool := Nat.beq a b
theorem eqN_iff {a b : Nat} : eqN a b = true ↔ a = b := ⟨Nat.eq_of_beq_eq_true, fun h => by subst h; exact Nat.beq_refl a⟩
theorem eqN_dec (a b : Nat) : eqN a b = decide (a = b) := by
  by_cases h : a = b
  · rw [decide_eq_true h]; exact eqN_iff.mpr h
  · rw [decide_eq_false h]; cases e : eqN a b with
    | false => rfl
    | true => exact absurd (eqN_iff.mp e) h
def lookN {β : Type} : List (Nat × β) → Nat → Option β
  | [], _ => none
  | e :: es, c => match eqN e.1 c with
    | true => some e.2
    | false => lookN es c
def putN {β : Type} : List (Nat × β) → Nat → β → List (Nat × β)
  | [], c, v => [(c, v)]
  | e :: es, c, v => match eqN e.1 c with
    | true => (e.1, v) :: es
    | false => e :: putN es c v
namespace Cod
variable (κ : Cod)
def E (c : Nat) : D := kd (κ.key c)
def dic {β : Type} (val : β → D) (es : List (Nat × β)) : List (NestedKey × D) := es.map fun e => (κ.key e.1, val e.2)
theorem keyOf_E (c : Nat) : keyOf (κ.E c) = some (κ.key c) := by
  have h := toKey_kd (κ.key c)
  have hd := κ.dep c
  obtain ⟨ks, e⟩ := κ.tup c
  unfold E
  rw [e] at h hd ⊢
  rw [kd] at h ⊢
  show (match toKey (.tup (kds ks)) with | some k => if k.depth ≤ 8 then some k else none | none => none) = _
  rw [h]
  exact if_pos hd
theorem py_E (c : Nat) : (κ.E c).py = some (pyK (κ.key c)) := py_kd _
theorem pys_E : ∀ cs : List Nat, pys (cs.map κ.E) = some (cs.map fun c => pyK (κ.key c))
  | [] => by rw [List.map_nil, pys]; rfl
  | c :: cs => by rw [List.map_cons, pys, py_E, pys_E cs]; rfl
theorem lay_E : ∀ cs : List Nat, PyData.canLayAll0 (cs.map fun c => pyK (κ.key c)) = true
  | [] => by rw [List.map_nil, PyData.canLayAll0]
  | c :: cs => by rw [List.map_cons, PyData.canLayAll0, lay_k _ (κ.nt c), lay_E cs]; rfl
theorem dep_E : ∀ cs : List Nat, PyData.depthAll (cs.map fun c => pyK (κ.key c)) ≤ 8
  | [] => by rw [List.map_nil, PyData.depthAll]; exact Nat.zero_le _
  | c :: cs => by
    have h1 := dep_k (κ.key c)
    have h2 := κ.dep c
    have h3 := dep_E cs
    rw [List.map_cons, PyData.depthAll]
    omega
theorem shaped_E (c : Nat) : SeqAt.shaped (pyK (κ.key c)) = true := by
  unfold SeqAt.shaped
  rw [lay_k _ (κ.nt c), Bool.true_and, decide_eq_true_eq]
  have h1 := dep_k (κ.key c)
  have h2 := κ.dep c
  omega
theorem shaped_L (cs : List Nat) : SeqAt.shaped (.list (cs.map fun c => pyK (κ.key c))) = true := by
  unfold SeqAt.shaped
  rw [PyData.canLay0, lay_E, Bool.true_and, decide_eq_true_eq, PyData.depth]
  have := κ.dep_E cs
  omega
theorem eq_E (k : Bool → Bool) (a b : Nat) : gEq k (κ.E a) (κ.E b) = some (.bl (k (eqN a b))) := by
  unfold gEq
  rw [py_E, py_E, Option.bind_some, Option.bind_some, if_pos ⟨shaped_E κ a, shaped_E κ b⟩, eqv_k]
  have : NestedKey.beq (κ.key a) (κ.key b) = eqN a b := by
    rw [eqN_dec]
    by_cases h : a = b
    · subst h; rw [NestedKey.beq_self, decide_eq_true rfl]
    · rw [decide_eq_false h]
      cases e : NestedKey.beq (κ.key a) (κ.key b) with
      | false => rfl
      | true => exact absurd (κ.inj _ _ (NestedKey.eq_of_beq _ _ e)) h
  rw [this]
theorem eq_nil (k : Bool → Bool) (cs : List Nat) : gEq k (.lst (cs.map κ.E)) (.lst []) = some (.bl (k cs.isEmpty)) := by
  unfold gEq
  rw [D.py, pys_E, D.py, pys]
  show (if SeqAt.shaped (.list (cs.map fun c => pyK (κ.key c))) = true ∧ SeqAt.shaped (.list []) = true then some (D.bl (k (PyData.eqv (.list (cs.map fun c => pyK (κ.key c))) (.list [])))) else none) = _
  rw [if_pos ⟨shaped_L κ cs, shaped_L κ []⟩, PyData.eqv]
  cases cs <;> simp [PyData.eqvAll]
theorem look {β : Type} (val : β → D) (c : Nat) : ∀ es : List (Nat × β), lookE ((κ.dic val es).map (·.1)) ((κ.dic val es).map (·.2)) (κ.key c) = (lookN es c).map val
  | [] => rfl
  | e :: es => by
    show (if κ.key e.1 = κ.key c then some (val e.2) else lookE ((κ.dic val es).map (·.1)) ((κ.dic val es).map (·.2)) (κ.key c)) = _
    rw [lookN]
    cases h : eqN e.1 c with
    | true => rw [eqN_iff.mp h, if_pos rfl]; rfl
    | false =>
      rw [if_neg fun z => by rw [eqN_iff.mpr (κ.inj _ _ z)] at h; cases h]
      exact look val c es
theorem put {β : Type} (val : β → D) (c : Nat) (v : β) : ∀ es : List (Nat × β), putE (κ.dic val es) (κ.key c) (val v) = κ.dic val (putN es c v)
  | [] => rfl
  | e :: es => by
    show (if κ.key e.1 = κ.key c then (κ.key e.1, val v) :: κ.dic val es else (κ.key e.1, val e.2) :: putE (κ.dic val es) (κ.key c) (val v)) = _
    rw [putN]
    cases h : eqN e.1 c with
    | true => rw [if_pos (by rw [eqN_iff.mp h])]; rfl
    | false =>
      rw [if_neg (fun z => by rw [eqN_iff.mpr (κ.inj _ _ z)] at h; cases h), put val c v es]
      rfl
theorem keys {β : Type} (val : β → D) (es : List (Nat × β)) : kds ((κ.dic val es).map (·.1)) = (es.map (·.1)).map κ.E := by
  rw [kds_map]
  unfold dic E
  rw [List.map_map, List.map_map, List.map_map]
  rfl
theorem get {β : Type} (val : β → D) (c : Nat) (es : List (Nat × β)) : gGet (.dic ((κ.dic val es).map (·.1)) ((κ.dic val es).map (·.2))) (κ.E c) = (lookN es c).map val := by
  show ((keyOf (κ.E c)).bind fun k => lookE ((κ.dic val es).map (·.1)) ((κ.dic val es).map (·.2)) k) = _
  rw [keyOf_E, Option.bind_some, look]
theorem inD {β : Type} (val : β → D) (c : Nat) (es : List (Nat × β)) (neg : Bool) : gDIn neg (κ.E c) (.dic ((κ.dic val es).map (·.1)) ((κ.dic val es).map (·.2))) = some (.bl (if neg then !(lookN es c).isSome else (lookN es c).isSome)) := by
  show ((keyOf (κ.E c)).bind fun k => some (D.bl (if neg then !(lookE ((κ.dic val es).map (·.1)) ((κ.dic val es).map (·.2)) k).isSome else (lookE ((κ.dic val es).map (·.1)) ((κ.dic val es).map (·.2)) k).isSome))) = _
  rw [keyOf_E, Option.bind_some, look, Option.isSome_map]
theorem dic_len {β : Type} (val : β → D) (es : List (Nat × β)) : (κ.dic val es).length = es.length := by unfold dic; rw [List.length_map]
end Cod
end Deep
set_option maxRecDepth 100000
set_option maxHeartbeats 4000000
namespace Deep
open PySem PySem.Spec PyProof.Rows L2
/-! ### plain runs, and what it is that a def's run follows one -/
inductive O2 (S ρ : Type) where
  | nx (s : S) | rt (r : ρ)
section
variable {S T ρ α : Type}
def Sim (R : S → DSt → Prop) (ret : ρ → D) : O2 S ρ → Option Out → Prop
  | .nx s, x => ∃ σ, x = some (.nx σ) ∧ R s σ
  | .rt r, x => x = some (.rt (ret r))
def bindO (x : Option (O2 S ρ)) (f : S → Option (O2 T ρ)) : Option (O2 T ρ) := match x with
  | none => none
  | some (.rt r) => some (.rt r)
  | some (.nx s) => f s
def foldO (step : α → S → Option (O2 S ρ)) : List α → S → Option (O2 S ρ)
  | [], s => some (.nx s)
  | x :: xs, s => bindO (step x s) (foldO step xs)
def whileO (test : S → Bool) (step : S → Option (O2 S ρ)) : Nat → S → Option (O2 S ρ)
  | 0, _ => none
  | n + 1, s => match test s with
    | true => bindO (step s) (whileO test step n)
    | false => some (.nx s)
theorem for_sim {R : S → DSt → Prop} {ret : ρ → D} {g : D → DSt → Option DSt} {b : DSt → Option Out} {enc : α → D} {step : α → S → Option (O2 S ρ)} (h : ∀ x s σ o, R s σ → step x s = some o → ∃ σ1, g (enc x) σ = some σ1 ∧ Sim R ret o (b σ1)) :
    ∀ xs s σ o, R s σ → foldO step xs s = some o → Sim R ret o (forGo g b (xs.map enc) σ)
  | [], s, σ, o, r, e => by cases e; exact ⟨σ, rfl, r⟩
  | x :: xs, s, σ, o, r, e => by
    rw [foldO] at e
    rw [List.map_cons, forGo]
    cases hx : step x s with
    | none => rw [hx] at e; cases e
    | some o1 =>
      rw [hx] at e
      obtain ⟨σ1, e1, q⟩ := h x s σ o1 r hx
      rw [e1, Option.bind_some]
      cases o1 with
      | rt r1 => cases e; rw [show b σ1 = some (.rt (ret r1)) from q, Option.bind_some]; rfl
      | nx s1 =>
        obtain ⟨σ2, e2, r2⟩ := q
        rw [e2, Option.bind_some]
        exact for_sim h xs s1 σ2 o r2 e
theorem while_sim {R : S → DSt → Prop} {ret : ρ → D} {c : DSt → Option Bool} {b : DSt → Option Out} {test : S → Bool} {step : S → Option (O2 S ρ)} (ht : ∀ s σ, R s σ → c σ = some (test s)) (h : ∀ s σ o, R s σ → test s = true → step s = some o → Sim R ret o (b σ)) :
    ∀ n s σ o, R s σ → whileO test step n s = some o → Sim R ret o (wGo c b n σ)
  | 0, s, σ, o, r, e => by cases e
  | n + 1, s, σ, o, r, e => by
    rw [whileO] at e
    rw [wGo, ht s σ r, Option.bind_some]
    cases hb : test s with
    | false => rw [hb] at e; cases e; exact ⟨σ, rfl, r⟩
    | true =>
      rw [hb] at e
      rw [if_pos rfl]
      cases hx : step s with
      | none => simp only [hx] at e; cases e
      | some o1 =>
        simp only [hx] at e
        have q := h s σ o1 r hb hx
        cases o1 with
        | rt r1 => cases e; rw [show b σ = some (.rt (ret r1)) from q, Option.bind_some]; rfl
        | nx s1 =>
          obtain ⟨σ2, e2, r2⟩ := q
          rw [e2, Option.bind_some]
          exact while_sim ht h n s1 σ2 o r2 e
theorem then_nx {g h : DSt → Option Out} {σ σ' : DSt} (e : g σ = some (.nx σ')) : sThen g h σ = h σ' := by
  unfold sThen
  rw [e, Option.bind_some]
theorem then_rt {g h : DSt → Option Out} {σ : DSt} {d : D} (e : g σ = some (.rt d)) : sThen g h σ = some (.rt d) := by
  unfold sThen
  rw [e, Option.bind_some]
theorem if_t {k : DSt → Option Bool} {g h : DSt → Option Out} {σ : DSt} (e : k σ = some true) : sIf k g h σ = g σ := by
  unfold sIf
  rw [e, Option.bind_some, if_pos rfl]
theorem if_f {k : DSt → Option Bool} {g h : DSt → Option Out} {σ : DSt} (e : k σ = some false) : sIf k g h σ = h σ := by
  unfold sIf
  rw [e, Option.bind_some, if_neg Bool.false_ne_true]
theorem for_eq {fi : DSt → Option (List D)} {g : D → DSt → Option DSt} {b : DSt → Option Out} {σ : DSt} {ds : List D} (e : fi σ = some ds) : sFor fi g b σ = forGo g b ds σ := by
  unfold sFor
  rw [e, Option.bind_some]
def numN : Nat → List α → List (Nat × α)
  | _, [] => []
  | n, x :: xs => (n, x) :: numN (n + 1) xs
theorem numD_map {f : α → D} : ∀ (n : Nat) (xs : List α), numD n (xs.map f) = (numN n xs).map fun x => .tup [.int (x.1 : Nat), f x.2]
  | _, [] => rfl
  | n, x :: xs => by rw [List.map_cons, numD, numD_map (n + 1) xs]; rfl
def short (xs : List α) : Bool := Nat.blt xs.length 100000
theorem short_lt {xs : List α} (h : short xs = true) : xs.length < 100000 := by
  unfold short at h
  exact Nat.lt_of_lt_of_le (Nat.lt_of_succ_le (Nat.le_of_ble_eq_true h)) (Nat.le_refl _)
end
namespace Cod
variable (κ : Cod)
abbrev yes : Unit → D := fun _ => .bl true
abbrev eI : Int → D := D.int
def eE (e : Nat × Int) : D := .tup [κ.E e.1, .int e.2]
def eEs (es : List (Nat × Int)) : D := .lst (es.map κ.eE)
def eA (q : Nat × Nat) : D := .tup [κ.E q.1, .int (q.2 : Nat)]
def eW (r : List Nat) : D := .tup (r.map fun i => .int (i : Nat))
def fd {β : Type} (val : β → D) (es : List (Nat × β)) : D := .dic ((κ.dic val es).map (·.1)) ((κ.dic val es).map (·.2))
theorem frz_dic {β : Type} (val : β → D) (es : List (Nat × β)) : (MO.dic (κ.dic val es)).frz = κ.fd val es := rfl
theorem get' {β : Type} (val : β → D) (c : Nat) (es : List (Nat × β)) : gGet (κ.fd val es) (κ.E c) = (lookN es c).map val := κ.get val c es
theorem inD' {β : Type} (val : β → D) (c : Nat) (es : List (Nat × β)) (neg : Bool) : gDIn neg (κ.E c) (κ.fd val es) = some (.bl (if neg then !(lookN es c).isSome else (lookN es c).isSome)) := κ.inD val c es neg
/-- a put into an own dict -/
theorem putAt {β : Type} (val : β → D) {i : Nat} {es : List (Nat × β)} {c : Nat} {v : β} {σ : DSt} (h : σ[i]? = some (some (.mu (.dic (κ.dic val es))))) (hl : short es = true) : putAtD i (κ.E c) (val v) σ = some (σ.set i (some (.mu (.dic (κ.dic val (putN es c v)))))) := by
  unfold putAtD
  rw [h]
  show ((keyOf (κ.E c)).bind fun k => if (κ.dic val es).length < 100000 then some (σ.set i (some (.mu (.dic (putE (κ.dic val es) k (val v)))))) else none) = _
  rw [keyOf_E, Option.bind_some, if_pos (by rw [dic_len]; exact short_lt hl), put]
theorem sPut_eq {β : Type} (val : β → D) {i : Nat} {es : List (Nat × β)} {c : Nat} {v : β} {σ : DSt} {fk fv : DSt → Option D} (hk : fk σ = some (κ.E c)) (hv : fv σ = some (val v)) (h : σ[i]? = some (some (.mu (.dic (κ.dic val es))))) (hl : short es = true) :
    sPut i fk fv σ = some (.nx (σ.set i (some (.mu (.dic (κ.dic val (putN es c v))))))) := by
  unfold sPut
  rw [hv, Option.bind_some, hk, Option.bind_some, κ.putAt val h hl]
  rfl
/-! ### lead_values: a step -/
structure VS where
  V : List (Nat × Int)
  A : List (Nat × (Nat × Nat))
  L : List (Nat × Unit)
def vBetter (o : Option Int) (n : Int) : Bool := match o with
  | none => true
  | some v => decide (v < n)
def vStep (p : Nat) (x : Nat × (Nat × Int)) (s : VS) : Option (O2 VS Empty) := match lookN s.V p with
  | none => none
  | some vp => match vBetter (lookN s.V x.2.1) (vp + x.2.2) with
    | false => some (.nx s)
    | true => match short s.V, short s.A, short s.L with
      | true, true, true => some (.nx ⟨putN s.V x.2.1 (vp + x.2.2), putN s.A x.2.1 (p, x.1), putN s.L x.2.1 ()⟩)
      | _, _, _ => none
def VR (gD b : D) (p : Nat) (s : VS) (σ : DSt) : Prop := ∃ x4 x7 x8 x9 x10 : Option DV, σ = [some (.im gD), some (.im b), some (.mu (.dic (κ.dic eI s.V))), some (.mu (.dic (κ.dic κ.eA s.A))), x4, some (.mu (.dic (κ.dic yes s.L))), some (.im (κ.E p)), x7, x8, x9, x10]
abbrev gEdge : D → DSt → Option DSt := gTp (gsCons (gNm 7) (gsCons (gTp (gsCons (gNm 8) (gsCons (gNm 9) gsNil))) gsNil))
abbrev vBody : DSt → Option Out := sIf
                      (fOr (fBl (fOp (gDIn true) (fVarR 8) (fVarR 2)))
                        (fBl
                          (fOp (gI fun i j => D.bl (decide (i < j))) (fOp gGet (fVarR 2) (fVarR 8))
                            (fOp (gI fun i j => D.int (i + j)) (fOp gGet (fVarR 2) (fVarR 6)) (fVarR 9)))))
                      (sThen
                        (sPut 2 (fVarR 8) (fOp (gI fun i j => D.int (i + j)) (fOp gGet (fVarR 2) (fVarR 6)) (fVarR 9)))
                        (sThen (sPut 3 (fVarR 8) (fTup (fCons (fVar 6) (fCons (fVar 7) fNil))))
                          (sPut 5 (fVarR 8) (fC (D.bl true)))))
                      sNil
theorem v_step (gD b : D) (p : Nat) (x : Nat × (Nat × Int)) (s : VS) (σ : DSt) (o : O2 VS Empty) (r : κ.VR gD b p s σ) (e : vStep p x s = some o) :
    ∃ σ1, gEdge (.tup [.int (x.1 : Nat), κ.eE x.2]) σ = some σ1 ∧ Sim (κ.VR gD b p) (fun z => nomatch z) o (vBody σ1) := by
  obtain ⟨x4, x7, x8, x9, x10, rfl⟩ := r
  refine ⟨[some (.im gD), some (.im b), some (.mu (.dic (κ.dic eI s.V))), some (.mu (.dic (κ.dic κ.eA s.A))), x4, some (.mu (.dic (κ.dic yes s.L))), some (.im (κ.E p)), some (.im (.int (x.1 : Nat))), some (.im (κ.E x.2.1)), some (.im (.int x.2.2)), x10], rfl, ?_⟩
  unfold vStep at e
  cases hp : lookN s.V p with
  | none => rw [hp] at e; cases e
  | some vp =>
    rw [hp] at e
    have e : (match vBetter (lookN s.V x.2.1) (vp + x.2.2) with
      | false => some (.nx s)
      | true => match short s.V, short s.A, short s.L with
        | true, true, true => some (.nx ⟨putN s.V x.2.1 (vp + x.2.2), putN s.A x.2.1 (p, x.1), putN s.L x.2.1 ()⟩)
        | _, _, _ => none) = some o := e
    have g6 : gGet (κ.fd eI s.V) (κ.E p) = some (.int vp) := by rw [κ.get', hp]; rfl
    generalize hσ : ([some (.im gD), some (.im b), some (.mu (.dic (κ.dic eI s.V))), some (.mu (.dic (κ.dic κ.eA s.A))), x4, some (.mu (.dic (κ.dic yes s.L))), some (.im (κ.E p)), some (.im (.int (x.1 : Nat))), some (.im (κ.E x.2.1)), some (.im (.int x.2.2)), x10] : DSt) = σ
    have f2 : fVarR 2 σ = some (κ.fd eI s.V) := by subst hσ; rfl
    have f6 : fVarR 6 σ = some (κ.E p) := by subst hσ; rfl
    have f8 : fVarR 8 σ = some (κ.E x.2.1) := by subst hσ; rfl
    have f9 : fVarR 9 σ = some (.int x.2.2) := by subst hσ; rfl
    have fs : fOp (gI fun i j => D.int (i + j)) (fOp gGet (fVarR 2) (fVarR 6)) (fVarR 9) σ = some (.int (vp + x.2.2)) := by
      unfold fOp
      rw [f2, Option.bind_some, f6, Option.bind_some, g6, Option.bind_some, f9, Option.bind_some]
      rfl
    have ht : fOr (fBl (fOp (gDIn true) (fVarR 8) (fVarR 2))) (fBl (fOp (gI fun i j => D.bl (decide (i < j))) (fOp gGet (fVarR 2) (fVarR 8)) (fOp (gI fun i j => D.int (i + j)) (fOp gGet (fVarR 2) (fVarR 6)) (fVarR 9)))) σ = some (vBetter (lookN s.V x.2.1) (vp + x.2.2)) := by
      have t1 : fBl (fOp (gDIn true) (fVarR 8) (fVarR 2)) σ = some (!(lookN s.V x.2.1).isSome) := by
        unfold fBl fOp
        rw [f8, Option.bind_some, f2, Option.bind_some, κ.inD']
        rfl
      unfold fOr
      rw [t1, Option.bind_some]
      cases hg : lookN s.V x.2.1 with
      | none => rfl
      | some vg =>
        show (fBl (fOp (gI fun i j => D.bl (decide (i < j))) (fOp gGet (fVarR 2) (fVarR 8)) (fOp (gI fun i j => D.int (i + j)) (fOp gGet (fVarR 2) (fVarR 6)) (fVarR 9)))) σ = some (decide (vg < vp + x.2.2))
        have g8 : fOp gGet (fVarR 2) (fVarR 8) σ = some (.int vg) := by
          unfold fOp
          rw [f2, Option.bind_some, f8, Option.bind_some, κ.get', hg]
          rfl
        unfold fBl
        rw [show fOp (gI fun i j => D.bl (decide (i < j))) (fOp gGet (fVarR 2) (fVarR 8)) (fOp (gI fun i j => D.int (i + j)) (fOp gGet (fVarR 2) (fVarR 6)) (fVarR 9)) σ = some (.bl (decide (vg < vp + x.2.2))) from by
          rw [fOp, g8, Option.bind_some, fs, Option.bind_some]
          rfl]
        rfl
    cases hb : vBetter (lookN s.V x.2.1) (vp + x.2.2) with
    | false =>
      rw [hb] at e ht
      cases e
      refine ⟨σ, by rw [vBody, if_f ht]; rfl, ?_⟩
      exact ⟨_, _, _, _, _, hσ.symm⟩
    | true =>
      rw [hb] at e ht
      have e : (match short s.V, short s.A, short s.L with
        | true, true, true => some (.nx ⟨putN s.V x.2.1 (vp + x.2.2), putN s.A x.2.1 (p, x.1), putN s.L x.2.1 ()⟩)
        | _, _, _ => none) = some o := e
      cases h1 : short s.V with
      | false => rw [h1] at e; cases e
      | true =>
        cases h2 : short s.A with
        | false => rw [h1, h2] at e; cases e
        | true =>
          cases h3 : short s.L with
          | false => rw [h1, h2, h3] at e; cases e
          | true =>
            rw [h1, h2, h3] at e
            cases e
            refine ⟨_, ?_, x4, some (.im (.int (x.1 : Nat))), some (.im (κ.E x.2.1)), some (.im (.int x.2.2)), x10, rfl⟩
            rw [vBody, if_t ht, then_nx (κ.sPut_eq eI (es := s.V) f8 fs (by subst hσ; rfl) h1), then_nx (κ.sPut_eq κ.eA (es := s.A) (c := x.2.1) (v := (p, x.1)) (by subst hσ; rfl) (by subst hσ; rfl) (by subst hσ; rfl) h2),
              κ.sPut_eq yes (es := s.L) (c := x.2.1) (v := ()) (by subst hσ; rfl) (by subst hσ; rfl) (by subst hσ; rfl) h3]
            subst hσ
            rfl
end Cod
end Deep
set_option maxRecDepth 100000
set_option maxHeartbeats 4000000
namespace Deep
open PySem PySem.Spec PyProof.Rows L2
abbrev AS := List (Nat × (Nat × Nat))
abbrev US := List (Nat × Unit)
def wTest (A : AS) (done : US) (s : US × Nat) : Bool := (lookN A s.2).isSome && (!(lookN done s.2).isSome && !(lookN s.1 s.2).isSome)
def wStep (A : AS) (s : US × Nat) : Option (O2 (US × Nat) (Nat × List Nat)) := match lookN A s.2, short s.1 with
  | some q, true => some (.nx (putN s.1 s.2 (), q.1))
  | _, _ => none
def fTest (here : Nat) (s : List Nat × Nat) : Bool := !eqN s.2 here
def fStep (A : AS) (s : List Nat × Nat) : Option (O2 (List Nat × Nat) (Nat × List Nat)) := match lookN A s.2, short s.1 with
  | some q, true => some (.nx (s.1 ++ [q.2], q.1))
  | _, _ => none
def dStep (c : Nat) (done : US) : Option (O2 US (Nat × List Nat)) := match short done with
  | true => some (.nx (putN done c ()))
  | false => none
def rStep (A : AS) (pair : Nat) (done : US) : Option (O2 US (Nat × List Nat)) := match whileO (wTest A done) (wStep A) 4000 ([], pair) with
  | some (.nx s) => match lookN s.1 s.2 with
    | some _ => match lookN A s.2 with
      | some q => match whileO (fTest s.2) (fStep A) 4000 ([q.2], q.1) with
        | some (.nx f) => some (.rt (s.2, f.1.reverse))
        | _ => none
      | none => none
    | none => foldO dStep (s.1.map (·.1)) done
  | _ => none
def ringN (A : AS) : Option (Option (Nat × List Nat)) := match foldO (rStep A) (A.map (·.1)) [] with
  | some (.nx _) => some none
  | some (.rt r) => some (some r)
  | none => none
theorem and_eq {f g : DSt → Option Bool} {σ : DSt} {a b : Bool} (h1 : f σ = some a) (h2 : g σ = some b) : fAnd f g σ = some (a && b) := by
  unfold fAnd
  rw [h1, Option.bind_some]
  cases a with
  | true => rw [if_pos rfl, h2]; rfl
  | false => rw [if_neg Bool.false_ne_true]; rfl
theorem sSet_eq {i : Nat} {f : DSt → Option D} {σ : DSt} {d : D} (h : f σ = some d) : sSet i f σ = some (.nx (σ.set i (some (.im d)))) := by
  unfold sSet
  rw [h]
  rfl
theorem sSetN_eq {i : Nat} {f : DSt → Option MO} {σ : DSt} {m : MO} (h : f σ = some m) : sSetN i f σ = some (.nx (σ.set i (some (.mu m)))) := by
  unfold sSetN
  rw [h]
  rfl
theorem sApp_eq {i : Nat} {f : DSt → Option D} {σ : DSt} {d : D} {ds : List D} (h : f σ = some d) (hi : σ[i]? = some (some (.mu (.lst ds)))) (hl : ds.length < 100000) : sApp i f σ = some (.nx (σ.set i (some (.mu (.lst (ds ++ [d])))))) := by
  unfold sApp appD
  rw [h, Option.bind_some, hi]
  show Option.map Out.nx (if ds.length < 100000 then some (σ.set i (some (.mu (.lst (ds ++ [d]))))) else none) = _
  rw [if_pos hl]
  rfl
theorem op_eq {g : D → D → Option D} {f1 f2 : DSt → Option D} {σ : DSt} {x y : D} {r : Option D} (h1 : f1 σ = some x) (h2 : f2 σ = some y) (h : g x y = r) : fOp g f1 f2 σ = r := by
  unfold fOp
  rw [h1, Option.bind_some, h2, Option.bind_some, h]
theorem bl_eq {f : DSt → Option D} {σ : DSt} {b : Bool} (h : f σ = some (.bl b)) : fBl f σ = some b := by
  unfold fBl
  rw [h]
  rfl
theorem ret_eq {f : DSt → Option D} {σ : DSt} {d : D} (h : f σ = some d) : sRet f σ = some (.rt d) := by
  unfold sRet
  rw [h]
  rfl
namespace Cod
variable (κ : Cod)
def eR (r : Nat × List Nat) : D := .tup [κ.E r.1, eW r.2]
def RW (A : AS) (done : US) (s : US × Nat) (σ : DSt) : Prop := ∃ x4 x5 x6 x7 : Option DV, σ = [some (.im (κ.fd κ.eA A)), some (.mu (.dic (κ.dic yes done))), some (.mu (.dic (κ.dic yes s.1))), some (.im (κ.E s.2)), x4, x5, x6, x7]
def RF (A : AS) (done line : US) (here : Nat) (s : List Nat × Nat) (σ : DSt) : Prop := ∃ x4 x7 : Option DV, σ = [some (.im (κ.fd κ.eA A)), some (.mu (.dic (κ.dic yes done))), some (.mu (.dic (κ.dic yes line))), some (.im (κ.E here)), x4, some (.mu (.lst (s.1.map fun i => D.int (i : Nat)))), some (.im (κ.E s.2)), x7]
def RD (A : AS) (done : US) (σ : DSt) : Prop := ∃ x2 x3 x4 x5 x6 x7 : Option DV, σ = [some (.im (κ.fd κ.eA A)), some (.mu (.dic (κ.dic yes done))), x2, x3, x4, x5, x6, x7]
theorem get_A {A : AS} {c : Nat} {q : Nat × Nat} (h : lookN A c = some q) : gGet (κ.fd κ.eA A) (κ.E c) = some (κ.eA q) := by
  rw [κ.get', h]
  rfl
theorem w_test (A : AS) (done : US) (s : US × Nat) (σ : DSt) (r : κ.RW A done s σ) :
    (fAnd (fBl (fOp (gDIn false) (fVarR 3) (fVarR 0))) (fAnd (fBl (fOp (gDIn true) (fVarR 3) (fVarR 1))) (fBl (fOp (gDIn true) (fVarR 3) (fVarR 2))))) σ = some (wTest A done s) := by
  obtain ⟨x4, x5, x6, x7, rfl⟩ := r
  unfold wTest
  refine and_eq (bl_eq (op_eq rfl rfl (κ.inD' κ.eA _ _ false))) (and_eq (bl_eq (op_eq rfl rfl (κ.inD' yes _ _ true))) (bl_eq (op_eq rfl rfl (κ.inD' yes _ _ true))))
theorem w_step (A : AS) (done : US) (s : US × Nat) (σ : DSt) (o : O2 (US × Nat) (Nat × List Nat)) (r : κ.RW A done s σ) (_ : wTest A done s = true) (e : wStep A s = some o) :
    Sim (κ.RW A done) κ.eR o ((sThen (sPut 2 (fVarR 3) (fC (D.bl true))) (sSet 3 (fOp gIx (fOp gGet (fVarR 0) (fVarR 3)) (fC (D.int 0))))) σ) := by
  obtain ⟨x4, x5, x6, x7, rfl⟩ := r
  unfold wStep at e
  cases h1 : lookN A s.2 with
  | none => rw [h1] at e; cases e
  | some q =>
    cases h2 : short s.1 with
    | false => rw [h1, h2] at e; cases e
    | true =>
      rw [h1, h2] at e
      cases e
      refine ⟨_, ?_, x4, x5, x6, x7, rfl⟩
      rw [then_nx (κ.sPut_eq yes (es := s.1) (c := s.2) (v := ()) rfl rfl rfl h2)]
      exact sSet_eq (op_eq (op_eq rfl rfl (κ.get_A h1)) rfl rfl)
theorem f_test (A : AS) (done line : US) (here : Nat) (s : List Nat × Nat) (σ : DSt) (r : κ.RF A done line here s σ) : (fBl (fOp (gEq fun b => !b) (fVarR 6) (fVarR 3))) σ = some (fTest here s) := by
  obtain ⟨x4, x7, rfl⟩ := r
  exact bl_eq (op_eq rfl rfl (κ.eq_E _ _ _))
theorem f_step (A : AS) (done line : US) (here : Nat) (s : List Nat × Nat) (σ : DSt) (o : O2 (List Nat × Nat) (Nat × List Nat)) (r : κ.RF A done line here s σ) (_ : fTest here s = true) (e : fStep A s = some o) :
    Sim (κ.RF A done line here) κ.eR o ((sThen (sApp 5 (fOp gIx (fOp gGet (fVarR 0) (fVarR 6)) (fC (D.int 1)))) (sSet 6 (fOp gIx (fOp gGet (fVarR 0) (fVarR 6)) (fC (D.int 0))))) σ) := by
  obtain ⟨x4, x7, rfl⟩ := r
  unfold fStep at e
  cases h1 : lookN A s.2 with
  | none => rw [h1] at e; cases e
  | some q =>
    cases h2 : short s.1 with
    | false => rw [h1, h2] at e; cases e
    | true =>
      rw [h1, h2] at e
      cases e
      refine ⟨_, ?_, x4, x7, rfl⟩
      rw [then_nx (sApp_eq (d := .int (q.2 : Nat)) (op_eq (op_eq rfl rfl (κ.get_A h1)) rfl rfl) rfl (by rw [List.length_map]; exact short_lt h2))]
      rw [sSet_eq (op_eq (op_eq rfl rfl (κ.get_A h1)) rfl rfl)]
      show some (Out.nx [_, _, _, _, _, _, _, _]) = _
      rw [List.map_append]
      rfl
theorem d_step (A : AS) (c : Nat) (done : US) (σ : DSt) (o : O2 US (Nat × List Nat)) (r : κ.RD A done σ) (e : dStep c done = some o) :
    ∃ σ1, gNm 7 (κ.E c) σ = some σ1 ∧ Sim (κ.RD A) κ.eR o ((sPut 1 (fVarR 7) (fC (D.bl true))) σ1) := by
  obtain ⟨x2, x3, x4, x5, x6, x7, rfl⟩ := r
  unfold dStep at e
  cases h2 : short done with
  | false => rw [h2] at e; cases e
  | true =>
    rw [h2] at e
    cases e
    exact ⟨_, rfl, _, κ.sPut_eq yes (es := done) (c := c) (v := ()) rfl rfl rfl h2, _, _, _, _, _, _, rfl⟩
abbrev rBody : DSt → Option Out := (sThen (sPar [2, 3] (fCons (fMu fNewD) (fCons (fIm (fVar 4)) fNil)))
            (sThen
              (wGo
                (fAnd (fBl (fOp (gDIn false) (fVarR 3) (fVarR 0)))
                  (fAnd (fBl (fOp (gDIn true) (fVarR 3) (fVarR 1))) (fBl (fOp (gDIn true) (fVarR 3) (fVarR 2)))))
                (sThen (sPut 2 (fVarR 3) (fC (D.bl true)))
                  (sSet 3 (fOp gIx (fOp gGet (fVarR 0) (fVarR 3)) (fC (D.int 0)))))
                4000)
              (sThen
                (sIf (fBl (fOp (gDIn false) (fVarR 3) (fVarR 2)))
                  (sThen
                    (sPar [5, 6]
                      (fCons (fMu (fLst (fCons (fOp gIx (fOp gGet (fVarR 0) (fVarR 3)) (fC (D.int 1))) fNil)))
                        (fCons (fIm (fOp gIx (fOp gGet (fVarR 0) (fVarR 3)) (fC (D.int 0)))) fNil)))
                    (sThen
                      (wGo (fBl (fOp (gEq fun b => !b) (fVarR 6) (fVarR 3)))
                        (sThen (sApp 5 (fOp gIx (fOp gGet (fVarR 0) (fVarR 6)) (fC (D.int 1))))
                          (sSet 6 (fOp gIx (fOp gGet (fVarR 0) (fVarR 6)) (fC (D.int 0)))))
                        4000)
                      (sRet (fTup (fCons (fVar 3) (fCons (fCall gTupOf (fCons (fFrz (fRev (fVarR 5))) fNil)) fNil))))))
                  sNil)
                (sFz 2 (sFor (fSeq (fVar 2) D.keys) (gNm 7) (sPut 1 (fVarR 7) (fC (D.bl true))))))))
theorem r_step (A : AS) (pair : Nat) (done : US) (σ : DSt) (o : O2 US (Nat × List Nat)) (r : κ.RD A done σ) (e : rStep A pair done = some o) :
    ∃ σ1, gNm 4 (κ.E pair) σ = some σ1 ∧ Sim (κ.RD A) κ.eR o (rBody σ1) := by
  obtain ⟨x2, x3, x4, x5, x6, x7, rfl⟩ := r
  refine ⟨_, rfl, ?_⟩
  unfold rBody
  rw [then_nx (σ' := [some (.im (κ.fd κ.eA A)), some (.mu (.dic (κ.dic yes done))), some (.mu (.dic (κ.dic yes []))), some (.im (κ.E pair)), some (.im (κ.E pair)), x5, x6, x7]) rfl]
  unfold rStep at e
  cases hw : whileO (wTest A done) (wStep A) 4000 ([], pair) with
  | none => rw [hw] at e; cases e
  | some ow =>
    rw [hw] at e
    have q := while_sim (κ.w_test A done) (κ.w_step A done) 4000 ([], pair) [some (.im (κ.fd κ.eA A)), some (.mu (.dic (κ.dic yes done))), some (.mu (.dic (κ.dic yes []))), some (.im (κ.E pair)), some (.im (κ.E pair)), x5, x6, x7] ow ⟨_, _, _, _, rfl⟩ hw
    cases ow with
    | rt z => cases e
    | nx s =>
      obtain ⟨σ2, e2, y4, y5, y6, y7, rfl⟩ := q
      rw [then_nx e2]
      have ht : (fBl (fOp (gDIn false) (fVarR 3) (fVarR 2))) [some (.im (κ.fd κ.eA A)), some (.mu (.dic (κ.dic yes done))), some (.mu (.dic (κ.dic yes s.1))), some (.im (κ.E s.2)), y4, y5, y6, y7] = some (lookN s.1 s.2).isSome := bl_eq (op_eq rfl rfl (κ.inD' yes _ _ false))
      have e : (match lookN s.1 s.2 with
        | some _ => match lookN A s.2 with
          | some q => match whileO (fTest s.2) (fStep A) 4000 ([q.2], q.1) with
            | some (.nx f) => some (.rt (s.2, f.1.reverse))
            | _ => none
          | none => none
        | none => foldO dStep (s.1.map (·.1)) done) = some o := e
      cases hl : lookN s.1 s.2 with
      | some u =>
        rw [hl] at e ht
        have e : (match lookN A s.2 with
          | some q => match whileO (fTest s.2) (fStep A) 4000 ([q.2], q.1) with
            | some (.nx f) => some (O2.rt (s.2, f.1.reverse))
            | _ => none
          | none => none) = some o := e
        cases hA : lookN A s.2 with
        | none => rw [hA] at e; cases e
        | some q =>
          rw [hA] at e
          have e : (match whileO (fTest s.2) (fStep A) 4000 ([q.2], q.1) with
            | some (.nx f) => some (O2.rt (s.2, f.1.reverse))
            | _ => none) = some o := e
          cases hf : whileO (fTest s.2) (fStep A) 4000 ([q.2], q.1) with
          | none => rw [hf] at e; cases e
          | some of =>
            rw [hf] at e
            have q0 := κ.get_A hA
            have par : (sPar [5, 6]
                      (fCons (fMu (fLst (fCons (fOp gIx (fOp gGet (fVarR 0) (fVarR 3)) (fC (D.int 1))) fNil)))
                        (fCons (fIm (fOp gIx (fOp gGet (fVarR 0) (fVarR 3)) (fC (D.int 0)))) fNil))) [some (.im (κ.fd κ.eA A)), some (.mu (.dic (κ.dic yes done))), some (.mu (.dic (κ.dic yes s.1))), some (.im (κ.E s.2)), y4, y5, y6, y7] =
                some (.nx [some (.im (κ.fd κ.eA A)), some (.mu (.dic (κ.dic yes done))), some (.mu (.dic (κ.dic yes s.1))), some (.im (κ.E s.2)), y4, some (.mu (.lst ([q.2].map fun i => D.int (i : Nat)))), some (.im (κ.E q.1)), y7]) := by
              have a1 : fOp gIx (fOp gGet (fVarR 0) (fVarR 3)) (fC (D.int 1)) [some (.im (κ.fd κ.eA A)), some (.mu (.dic (κ.dic yes done))), some (.mu (.dic (κ.dic yes s.1))), some (.im (κ.E s.2)), y4, y5, y6, y7] = some (.int (q.2 : Nat)) := op_eq (op_eq rfl rfl q0) rfl rfl
              have a0 : fOp gIx (fOp gGet (fVarR 0) (fVarR 3)) (fC (D.int 0)) [some (.im (κ.fd κ.eA A)), some (.mu (.dic (κ.dic yes done))), some (.mu (.dic (κ.dic yes s.1))), some (.im (κ.E s.2)), y4, y5, y6, y7] = some (κ.E q.1) := op_eq (op_eq rfl rfl q0) rfl rfl
              simp only [sPar, fCons, fMu, fLst, fIm, a1, a0, Option.map_some, Option.bind_some, fNil]
              rfl
            have qf := while_sim (κ.f_test A done s.1 s.2) (κ.f_step A done s.1 s.2) 4000 ([q.2], q.1) [some (.im (κ.fd κ.eA A)), some (.mu (.dic (κ.dic yes done))), some (.mu (.dic (κ.dic yes s.1))), some (.im (κ.E s.2)), y4, some (.mu (.lst ([q.2].map fun i => D.int (i : Nat)))), some (.im (κ.E q.1)), y7] of ⟨_, _, rfl⟩ hf
            cases of with
            | rt z => cases e
            | nx f =>
              obtain ⟨σ3, e3, z4, z7, rfl⟩ := qf
              cases e
              show _ = some (Out.rt _)
              refine then_rt ?_
              rw [if_t ht, then_nx par, then_nx e3]
              refine ret_eq ?_
              show some (D.tup [κ.E s.2, D.tup ((f.1.map fun i => D.int (i : Nat)).reverse)]) = _
              rw [← List.map_reverse]
              rfl
      | none =>
        rw [hl] at e ht
        rw [then_nx (σ' := [some (.im (κ.fd κ.eA A)), some (.mu (.dic (κ.dic yes done))), some (.mu (.dic (κ.dic yes s.1))), some (.im (κ.E s.2)), y4, y5, y6, y7]) (by rw [if_f ht]; rfl)]
        show Sim (κ.RD A) κ.eR o (sFor (fSeq (fVar 2) D.keys) (gNm 7) (sPut 1 (fVarR 7) (fC (D.bl true))) [some (.im (κ.fd κ.eA A)), some (.mu (.dic (κ.dic yes done))), some (.im (κ.fd yes s.1)), some (.im (κ.E s.2)), y4, y5, y6, y7])
        rw [for_eq (ds := (s.1.map (·.1)).map κ.E) (by show some (kds ((κ.dic yes s.1).map (·.1))) = _; rw [κ.keys])]
        exact for_sim (κ.d_step A) _ _ _ _ ⟨_, _, _, _, _, _, rfl⟩ e
def eRing : Option (Nat × List Nat) → D
  | none => .non
  | some r => κ.eR r
theorem ring_run {A : AS} {r : Option (Nat × List Nat)} (e : ringN A = some r) : runD 8 pRing.1 [κ.fd κ.eA A] = some (κ.eRing r) := by
  have pe : pRing.1 = sThen (sSetN 1 fNewD) (sThen (sFor (fSeq (fVar 0) D.keys) (gNm 4) rBody) (sRet (fC D.non))) := rfl
  unfold runD
  rw [pe]
  show Option.map _ (sThen (sSetN 1 fNewD) _ [some (.im (κ.fd κ.eA A)), none, none, none, none, none, none, none]) = _
  rw [then_nx (σ' := [some (.im (κ.fd κ.eA A)), some (.mu (.dic (κ.dic yes []))), none, none, none, none, none, none]) rfl]
  unfold ringN at e
  cases hf : foldO (rStep A) (A.map (·.1)) [] with
  | none => rw [hf] at e; cases e
  | some o =>
    rw [hf] at e
    have q := for_sim (κ.r_step A) (A.map (·.1)) [] [some (.im (κ.fd κ.eA A)), some (.mu (.dic (κ.dic yes []))), none, none, none, none, none, none] o ⟨_, _, _, _, _, _, rfl⟩ hf
    have fe : sFor (fSeq (fVar 0) D.keys) (gNm 4) rBody [some (.im (κ.fd κ.eA A)), some (.mu (.dic (κ.dic yes []))), none, none, none, none, none, none] = forGo (gNm 4) rBody ((A.map (·.1)).map κ.E) [some (.im (κ.fd κ.eA A)), some (.mu (.dic (κ.dic yes []))), none, none, none, none, none, none] :=
      for_eq (by show some (kds ((κ.dic κ.eA A).map (·.1))) = _; rw [κ.keys])
    cases o with
    | rt z =>
      cases e
      rw [then_rt (fe.trans q)]
      rfl
    | nx s =>
      cases e
      obtain ⟨σ2, e2, x2, x3, x4, x5, x6, x7, rfl⟩ := q
      rw [then_nx (fe.trans e2)]
      rfl
end Cod
end Deep
set_option maxRecDepth 100000
set_option maxHeartbeats 4000000
namespace Deep
open PySem PySem.Spec PyProof.Rows L2
mutual
theorem flat_kd : ∀ k : NestedKey, (kd k).flatB = true
  | .none => by rw [kd, D.flatB] <;> intros <;> contradiction
  | .num i => by rw [kd, D.flatB] <;> intros <;> contradiction
  | .text x => by rw [kd, D.flatB] <;> intros <;> contradiction
  | .tup ks => by rw [kd, D.flatB]; exact flats_kd ks
theorem flats_kd : ∀ ks : List NestedKey, flatsB (kds ks) = true
  | [] => by rw [kds, flatsB]
  | k :: ks => by rw [kds, flatsB, flat_kd k, flats_kd ks]; rfl
end
theorem flat_ints : ∀ is : List Nat, flatsB (is.map fun i => D.int (i : Nat)) = true
  | [] => by rw [List.map_nil, flatsB]
  | i :: is => by
    rw [List.map_cons, flatsB, flat_ints is, D.flatB] <;> first | rfl | (intros; contradiction)
abbrev GS := List (Nat × List (Nat × Int))
def pStep (G : GS) (p : Nat) (s : Cod.VS) : Option (O2 Cod.VS Empty) := match lookN G p with
  | some es => foldO (Cod.vStep p) (numN 0 es) s
  | none => none
abbrev WS := List (Nat × Int) × AS × List Nat
def vTest (s : WS) : Bool := !s.2.2.isEmpty
def vWhile (G : GS) (s : WS) : Option (O2 WS (List (Nat × Int) × (Nat × List Nat))) := match foldO (pStep G) s.2.2 ⟨s.1, s.2.1, []⟩ with
  | some (.nx z) => match ringN z.A with
    | some none => some (.nx (z.V, z.A, z.L.map (·.1)))
    | some (some r) => some (.rt (z.V, r))
    | none => none
  | _ => none
def valuesN (G : GS) (b : Nat) : Option (List (Nat × Int) × Option (Nat × List Nat)) := match whileO vTest (vWhile G) 4000 ([(b, 0)], [], [b]) with
  | some (.nx s) => some (s.1, none)
  | some (.rt (V, r)) => some (V, some r)
  | none => none
namespace Cod
variable (κ : Cod)
theorem flat_ring (r : Option (Nat × List Nat)) : (κ.eRing r).flatB = true := by
  cases r with
  | none => show D.flatB .non = true; rw [D.flatB] <;> intros <;> contradiction
  | some r =>
    show (D.tup [κ.E r.1, .tup (r.2.map fun i => D.int (i : Nat))]).flatB = true
    rw [D.flatB, flatsB, flatsB, flatsB, D.flatB, flat_ints]
    unfold E
    rw [flat_kd]
    rfl
def VR' (gD b : D) (s : VS) (σ : DSt) : Prop := ∃ x4 x6 x7 x8 x9 x10 : Option DV, σ = [some (.im gD), some (.im b), some (.mu (.dic (κ.dic eI s.V))), some (.mu (.dic (κ.dic κ.eA s.A))), x4, some (.mu (.dic (κ.dic yes s.L))), x6, x7, x8, x9, x10]
abbrev fEdges : DSt → Option (List D) := fSeq (fOp gGet (fVarR 0) (fVarR 6)) fun d => Option.map (numD 0) (D.asLst d)
theorem edges_eq {G : GS} {p : Nat} {es : List (Nat × Int)} {σ : DSt} (h0 : fVarR 0 σ = some (κ.fd κ.eEs G)) (h6 : fVarR 6 σ = some (κ.E p)) (h : lookN G p = some es) :
    fEdges σ = some ((numN 0 es).map fun x => .tup [.int (x.1 : Nat), κ.eE x.2]) := by
  have hg : fOp gGet (fVarR 0) (fVarR 6) σ = some (κ.eEs es) := op_eq h0 h6 (by rw [κ.get', h]; rfl)
  unfold fEdges fSeq
  rw [hg, Option.bind_some, ← numD_map]
  rfl
theorem p_step (G : GS) (b : D) (p : Nat) (s : VS) (σ : DSt) (o : O2 VS Empty) (r : κ.VR' (κ.fd κ.eEs G) b s σ) (e : pStep G p s = some o) :
    ∃ σ1, gNm 6 (κ.E p) σ = some σ1 ∧ Sim (κ.VR' (κ.fd κ.eEs G) b) (fun z => nomatch z) o (sFor fEdges gEdge vBody σ1) := by
  obtain ⟨x4, x6, x7, x8, x9, x10, rfl⟩ := r
  refine ⟨_, rfl, ?_⟩
  unfold pStep at e
  cases hg : lookN G p with
  | none => rw [hg] at e; cases e
  | some es =>
    rw [hg] at e
    rw [for_eq (κ.edges_eq (G := G) (p := p) rfl rfl hg)]
    have q := for_sim (R := κ.VR (κ.fd κ.eEs G) b p) (ret := fun z => nomatch z) (enc := fun x : Nat × (Nat × Int) => .tup [.int (x.1 : Nat), κ.eE x.2]) (κ.v_step (κ.fd κ.eEs G) b p) (numN 0 es) s _ o ⟨x4, x7, x8, x9, x10, rfl⟩ e
    cases o with
    | rt z => exact nomatch z
    | nx s' =>
      obtain ⟨σ2, e2, y4, y7, y8, y9, y10, rfl⟩ := q
      exact ⟨_, e2, _, _, _, _, _, _, rfl⟩
def VW (gD b : D) (s : WS) (σ : DSt) : Prop := ∃ x5 x6 x7 x8 x9 x10 : Option DV, σ = [some (.im gD), some (.im b), some (.mu (.dic (κ.dic eI s.1))), some (.mu (.dic (κ.dic κ.eA s.2.1))), some (.mu (.lst (s.2.2.map κ.E))), x5, x6, x7, x8, x9, x10]
abbrev vLoop : DSt → Option Out := (sThen (sSetN 5 fNewD)
            (sThen
              (sFz 4
                (sFor (fSeq (fVar 4) D.asLst) (gNm 6)
                  (sFor fEdges gEdge vBody)))
              (sThen (sSet 10 (fBor 3 (fCall (runD 8 pRing.1) (fCons (fVar 3) fNil))))
                (sThen
                  (sIf (fBl (fOp (gIsN fun b => !b) (fVarR 10) (fC D.non)))
                    (sFz 2 (sRet (fTup (fCons (fVar 2) (fCons (fVar 10) fNil))))) sNil)
                  (sSetN 4 (fCall gLstD (fCons (fVarR 5) fNil)))))))
def eVR (x : List (Nat × Int) × (Nat × List Nat)) : D := .tup [κ.fd eI x.1, κ.eR x.2]
theorem v_test (gD b : D) (s : WS) (σ : DSt) (r : κ.VW gD b s σ) : (fBl (fOp (gEq fun b => !b) (fVarR 4) (fFrz (fLst fNil)))) σ = some (vTest s) := by
  obtain ⟨x5, x6, x7, x8, x9, x10, rfl⟩ := r
  exact bl_eq (op_eq rfl rfl (κ.eq_nil _ _))
theorem v_while (G : GS) (b : D) (s : WS) (σ : DSt) (o : O2 WS (List (Nat × Int) × (Nat × List Nat))) (r : κ.VW (κ.fd κ.eEs G) b s σ) (_ : vTest s = true) (e : vWhile G s = some o) : Sim (κ.VW (κ.fd κ.eEs G) b) κ.eVR o (vLoop σ) := by
  obtain ⟨x5, x6, x7, x8, x9, x10, rfl⟩ := r
  unfold vLoop
  rw [then_nx (σ' := [some (.im (κ.fd κ.eEs G)), some (.im b), some (.mu (.dic (κ.dic eI s.1))), some (.mu (.dic (κ.dic κ.eA s.2.1))), some (.mu (.lst (s.2.2.map κ.E))), some (.mu (.dic (κ.dic yes []))), x6, x7, x8, x9, x10]) rfl]
  unfold vWhile at e
  cases hf : foldO (pStep G) s.2.2 ⟨s.1, s.2.1, []⟩ with
  | none => rw [hf] at e; cases e
  | some o1 =>
    rw [hf] at e
    have q := for_sim (κ.p_step G b) s.2.2 ⟨s.1, s.2.1, []⟩ [some (.im (κ.fd κ.eEs G)), some (.im b), some (.mu (.dic (κ.dic eI s.1))), some (.mu (.dic (κ.dic κ.eA s.2.1))), some (.im (.lst (s.2.2.map κ.E))), some (.mu (.dic (κ.dic yes []))), x6, x7, x8, x9, x10] o1 ⟨_, _, _, _, _, _, rfl⟩ hf
    cases o1 with
    | rt z => exact nomatch z
    | nx z =>
      obtain ⟨σ2, e2, y4, y6, y7, y8, y9, y10, rfl⟩ := q
      have e : (match ringN z.A with
        | some none => some (.nx (z.V, z.A, z.L.map (·.1)))
        | some (some r) => some (.rt (z.V, r))
        | none => none) = some o := e
      rw [then_nx (g := sFz 4 _) (show sFz 4 (sFor (fSeq (fVar 4) D.asLst) (gNm 6) (sFor fEdges gEdge vBody)) [some (.im (κ.fd κ.eEs G)), some (.im b), some (.mu (.dic (κ.dic eI s.1))), some (.mu (.dic (κ.dic κ.eA s.2.1))), some (.mu (.lst (s.2.2.map κ.E))), some (.mu (.dic (κ.dic yes []))), x6, x7, x8, x9, x10] = _ from (for_eq (ds := s.2.2.map κ.E) rfl).trans e2)]
      cases hr : ringN z.A with
      | none => rw [hr] at e; cases e
      | some rr =>
        rw [hr] at e
        have hbor : (fBor 3 (fCall (runD 8 pRing.1) (fCons (fVar 3) fNil))) [some (.im (κ.fd κ.eEs G)), some (.im b), some (.mu (.dic (κ.dic eI z.V))), some (.mu (.dic (κ.dic κ.eA z.A))), y4, some (.mu (.dic (κ.dic yes z.L))), y6, y7, y8, y9, y10] = some (κ.eRing rr) := by
          show (runD 8 pRing.1 [κ.fd κ.eA z.A]).bind (fun d => if d.flatB = true then some d else none) = _
          rw [κ.ring_run hr, Option.bind_some, if_pos (κ.flat_ring rr)]
        rw [then_nx (sSet_eq hbor)]
        show Sim _ _ _ (sThen _ _ [some (.im (κ.fd κ.eEs G)), some (.im b), some (.mu (.dic (κ.dic eI z.V))), some (.mu (.dic (κ.dic κ.eA z.A))), y4, some (.mu (.dic (κ.dic yes z.L))), y6, y7, y8, y9, some (.im (κ.eRing rr))])
        cases rr with
        | none =>
          cases e
          rw [then_nx (if_f (by rfl))]
          refine ⟨_, rfl, some (.mu (.dic (κ.dic yes z.L))), y6, y7, y8, y9, some (.im (κ.eRing none)), ?_⟩
          show [_, _, _, _, some (DV.mu (.lst (kds ((κ.dic yes z.L).map (·.1))))), _, _, _, _, _, _] = _
          rw [κ.keys]
        | some r =>
          cases e
          refine then_rt ?_
          rw [if_t (by rfl)]
          rfl
theorem values_run {G : GS} {b : Nat} {V : List (Nat × Int)} {r : Option (Nat × List Nat)} (e : valuesN G b = some (V, r)) : runD 11 pValues.1 [κ.fd κ.eEs G, κ.E b] = some (.tup [κ.fd eI V, κ.eRing r]) := by
  have pe : pValues.1 = sThen (sPar [2, 3, 4] (fCons (fMu (fDisp1 (fVarR 1) (fC (D.int 0)))) (fCons (fMu fNewD) (fCons (fMu (fLst (fCons (fVar 1) fNil))) fNil))))
      (sThen (wGo (fBl (fOp (gEq fun b => !b) (fVarR 4) (fFrz (fLst fNil)))) vLoop 4000) (sFz 2 (sRet (fTup (fCons (fVar 2) (fCons (fC D.non) fNil)))))) := rfl
  unfold runD
  rw [pe]
  show Option.map _ (sThen _ _ [some (.im (κ.fd κ.eEs G)), some (.im (κ.E b)), none, none, none, none, none, none, none, none, none]) = _
  have par : (sPar [2, 3, 4] (fCons (fMu (fDisp1 (fVarR 1) (fC (D.int 0)))) (fCons (fMu fNewD) (fCons (fMu (fLst (fCons (fVar 1) fNil))) fNil)))) [some (.im (κ.fd κ.eEs G)), some (.im (κ.E b)), none, none, none, none, none, none, none, none, none] =
      some (.nx [some (.im (κ.fd κ.eEs G)), some (.im (κ.E b)), some (.mu (.dic (κ.dic eI [(b, 0)]))), some (.mu (.dic (κ.dic κ.eA []))), some (.mu (.lst ([b].map κ.E))), none, none, none, none, none, none]) := by
    have hk : fDisp1 (fVarR 1) (fC (D.int 0)) [some (.im (κ.fd κ.eEs G)), some (.im (κ.E b)), none, none, none, none, none, none, none, none, none] = some (.dic (κ.dic eI [(b, 0)])) := by
      show ((keyOf (κ.E b)).bind fun k => some (MO.dic [(k, D.int 0)])) = _
      rw [κ.keyOf_E]
      rfl
    simp only [sPar, fCons, fMu, hk, Option.map_some, Option.bind_some]
    rfl
  rw [then_nx par]
  unfold valuesN at e
  cases hw : whileO vTest (vWhile G) 4000 ([(b, 0)], [], [b]) with
  | none => rw [hw] at e; cases e
  | some o =>
    rw [hw] at e
    have q := while_sim (κ.v_test (κ.fd κ.eEs G) (κ.E b)) (κ.v_while G (κ.E b)) 4000 ([(b, 0)], [], [b]) [some (.im (κ.fd κ.eEs G)), some (.im (κ.E b)), some (.mu (.dic (κ.dic eI [(b, 0)]))), some (.mu (.dic (κ.dic κ.eA []))), some (.mu (.lst ([b].map κ.E))), none, none, none, none, none, none] o ⟨_, _, _, _, _, _, rfl⟩ hw
    cases o with
    | rt z =>
      cases e
      rw [then_rt q]
      rfl
    | nx s =>
      cases e
      obtain ⟨σ2, e2, x5, x6, x7, x8, x9, x10, rfl⟩ := q
      rw [then_nx e2]
      rfl
end Cod
end Deep
set_option maxRecDepth 100000
set_option maxHeartbeats 4000000
namespace Deep
open PySem PySem.Spec PyProof.Rows L2
abbrev YS := List (Nat × List Nat) × List Nat
def fineN (Vo : Option (List (Nat × Int))) (p : Nat) (e : Nat × Int) : Option Bool := match Vo with
  | none => some true
  | some V => match lookN V p, lookN V e.1 with
    | some a, some b => some (decide (a + e.2 = b))
    | _, _ => none
def yStep (Vo : Option (List (Nat × Int))) (p : Nat) (x : Nat × (Nat × Int)) (s : YS) : Option (O2 YS Empty) := match fineN Vo p x.2 with
  | none => none
  | some fine => match fine && !(lookN s.1 x.2.1).isSome with
    | false => some (.nx s)
    | true => match lookN s.1 p with
      | none => none
      | some fp => match short s.1, short s.2, Nat.ble (fp.length + 1) 1000 with
        | true, true, true => some (.nx (putN s.1 x.2.1 (fp ++ [x.1]), s.2 ++ [x.2.1]))
        | _, _, _ => none
def ypStep (G : GS) (Vo : Option (List (Nat × Int))) (p : Nat) (s : YS) : Option (O2 YS Empty) := match lookN G p with
  | some es => foldO (yStep Vo p) (numN 0 es) s
  | none => none
def yTest (s : YS) : Bool := !s.2.isEmpty
def yWhile (G : GS) (Vo : Option (List (Nat × Int))) (s : YS) : Option (O2 YS Empty) := foldO (ypStep G Vo) s.2 (s.1, [])
def waysN (G : GS) (b : Nat) (Vo : Option (List (Nat × Int))) : Option (List (Nat × List Nat)) := match whileO yTest (yWhile G Vo) 4000 ([(b, [])], [b]) with
  | some (.nx s) => some s.1
  | _ => none
theorem or_val {f g : DSt → Option D} {σ : DSt} {a : Bool} (h : f σ = some (.bl a)) : fOrV f g σ = if a = true then some (.bl true) else g σ := by
  unfold fOrV
  rw [h]
  rfl
theorem eq_int (k : Bool → Bool) (i j : Int) : gEq k (.int i) (.int j) = some (.bl (k (decide (i = j)))) := by
  unfold gEq
  rw [D.py, D.py, Option.bind_some, Option.bind_some]
  have hs : ∀ i : Int, SeqAt.shaped (.int i) = true := fun i => by
    unfold SeqAt.shaped
    rw [PyData.canLay0, PyData.depth]
    rfl
  rw [if_pos ⟨hs i, hs j⟩, PyData.eqv]
  by_cases h : i = j
  · subst h; simp
  · rw [show (i == j) = false from beq_eq_false_iff_ne.mpr h, decide_eq_false h]
namespace Cod
variable (κ : Cod)
def eV : Option (List (Nat × Int)) → D
  | none => .non
  | some V => κ.fd eI V
abbrev fFine : DSt → Option D := (fOrV (fOp (gIsN fun b => b) (fVarR 2) (fC D.non))
                          (fOp (gEq fun b => b)
                            (fOp (gI fun i j => D.int (i + j)) (fOp gGet (fVarR 2) (fVarR 6)) (fVarR 9))
                            (fOp gGet (fVarR 2) (fVarR 8))))
abbrev yBody : DSt → Option Out := (sThen
                      (sSet 10 fFine)
                      (sIf (fAnd (fBl (fVar 10)) (fBl (fOp (gDIn true) (fVarR 8) (fVarR 3))))
                        (sThen
                          (sPut 3 (fVarR 8) (fOp gCatT (fOp gGet (fVarR 3) (fVarR 6)) (fTup (fCons (fVar 7) fNil))))
                          (sApp 5 (fVar 8)))
                        sNil))
theorem fine_eq {Vo : Option (List (Nat × Int))} {p : Nat} {e : Nat × Int} {fine : Bool} {σ : DSt} (h2 : fVarR 2 σ = some (κ.eV Vo)) (h6 : fVarR 6 σ = some (κ.E p)) (h8 : fVarR 8 σ = some (κ.E e.1)) (h9 : fVarR 9 σ = some (.int e.2)) (h : fineN Vo p e = some fine) : fFine σ = some (.bl fine) := by
  cases Vo with
  | none =>
    cases h
    exact (or_val (a := true) (op_eq h2 rfl rfl)).trans (if_pos rfl)
  | some V =>
    refine (or_val (a := false) (op_eq h2 rfl rfl)).trans ((if_neg Bool.false_ne_true).trans ?_)
    have h : (match lookN V p, lookN V e.1 with
      | some a, some b => some (decide (a + e.2 = b))
      | _, _ => none) = some fine := h
    cases ha : lookN V p with
    | none => rw [ha] at h; cases h
    | some a =>
      cases hb : lookN V e.1 with
      | none => rw [ha, hb] at h; cases h
      | some b =>
        rw [ha, hb] at h
        cases h
        exact op_eq (op_eq (op_eq h2 h6 (by show gGet (κ.fd eI V) _ = some (.int a); rw [κ.get', ha]; rfl)) h9 rfl) (op_eq h2 h8 (by show gGet (κ.fd eI V) _ = some (.int b); rw [κ.get', hb]; rfl)) (eq_int _ _ _)
def YR (gD b : D) (Vo : Option (List (Nat × Int))) (p : Nat) (s : YS) (σ : DSt) : Prop := ∃ x4 x7 x8 x9 x10 : Option DV, σ = [some (.im gD), some (.im b), some (.im (κ.eV Vo)), some (.mu (.dic (κ.dic eW s.1))), x4, some (.mu (.lst (s.2.map κ.E))), some (.im (κ.E p)), x7, x8, x9, x10]
theorem y_step (gD b : D) (Vo : Option (List (Nat × Int))) (p : Nat) (x : Nat × (Nat × Int)) (s : YS) (σ : DSt) (o : O2 YS Empty) (r : κ.YR gD b Vo p s σ) (e : yStep Vo p x s = some o) :
    ∃ σ1, gEdge (.tup [.int (x.1 : Nat), κ.eE x.2]) σ = some σ1 ∧ Sim (κ.YR gD b Vo p) (fun z => nomatch z) o (yBody σ1) := by
  obtain ⟨x4, x7, x8, x9, x10, rfl⟩ := r
  refine ⟨[some (.im gD), some (.im b), some (.im (κ.eV Vo)), some (.mu (.dic (κ.dic eW s.1))), x4, some (.mu (.lst (s.2.map κ.E))), some (.im (κ.E p)), some (.im (.int (x.1 : Nat))), some (.im (κ.E x.2.1)), some (.im (.int x.2.2)), x10], rfl, ?_⟩
  unfold yStep at e
  cases hf : fineN Vo p x.2 with
  | none => rw [hf] at e; cases e
  | some fine =>
    rw [hf] at e
    have e : (match fine && !(lookN s.1 x.2.1).isSome with
      | false => some (.nx s)
      | true => match lookN s.1 p with
        | none => none
        | some fp => match short s.1, short s.2, Nat.ble (fp.length + 1) 1000 with
          | true, true, true => some (.nx (putN s.1 x.2.1 (fp ++ [x.1]), s.2 ++ [x.2.1]))
          | _, _, _ => none) = some o := e
    unfold yBody
    rw [then_nx (sSet_eq (κ.fine_eq (Vo := Vo) (p := p) (e := x.2) rfl rfl rfl rfl hf))]
    show Sim _ _ _ (sIf _ _ _ [some (.im gD), some (.im b), some (.im (κ.eV Vo)), some (.mu (.dic (κ.dic eW s.1))), x4, some (.mu (.lst (s.2.map κ.E))), some (.im (κ.E p)), some (.im (.int (x.1 : Nat))), some (.im (κ.E x.2.1)), some (.im (.int x.2.2)), some (.im (.bl fine))])
    have ht : (fAnd (fBl (fVar 10)) (fBl (fOp (gDIn true) (fVarR 8) (fVarR 3)))) [some (.im gD), some (.im b), some (.im (κ.eV Vo)), some (.mu (.dic (κ.dic eW s.1))), x4, some (.mu (.lst (s.2.map κ.E))), some (.im (κ.E p)), some (.im (.int (x.1 : Nat))), some (.im (κ.E x.2.1)), some (.im (.int x.2.2)), some (.im (.bl fine))] = some (fine && !(lookN s.1 x.2.1).isSome) :=
      and_eq rfl (bl_eq (op_eq rfl rfl (κ.inD' eW _ _ true)))
    cases hb : fine && !(lookN s.1 x.2.1).isSome with
    | false =>
      rw [hb] at e ht
      cases e
      rw [if_f ht]
      exact ⟨_, rfl, _, _, _, _, _, rfl⟩
    | true =>
      rw [hb] at e ht
      have e : (match lookN s.1 p with
        | none => none
        | some fp => match short s.1, short s.2, Nat.ble (fp.length + 1) 1000 with
          | true, true, true => some (.nx (putN s.1 x.2.1 (fp ++ [x.1]), s.2 ++ [x.2.1]))
          | _, _, _ => none) = some o := e
      cases hp : lookN s.1 p with
      | none => rw [hp] at e; cases e
      | some fp =>
        rw [hp] at e
        have e : (match short s.1, short s.2, Nat.ble (fp.length + 1) 1000 with
          | true, true, true => some (O2.nx (putN s.1 x.2.1 (fp ++ [x.1]), s.2 ++ [x.2.1]))
          | _, _, _ => none) = some o := e
        cases h1 : short s.1 with
        | false => rw [h1] at e; cases e
        | true =>
          cases h2 : short s.2 with
          | false => rw [h1, h2] at e; cases e
          | true =>
            cases h3 : Nat.ble (fp.length + 1) 1000 with
            | false => rw [h1, h2, h3] at e; cases e
            | true =>
              rw [h1, h2, h3] at e
              cases e
              rw [if_t ht]
              have hc : (fOp gCatT (fOp gGet (fVarR 3) (fVarR 6)) (fTup (fCons (fVar 7) fNil))) [some (.im gD), some (.im b), some (.im (κ.eV Vo)), some (.mu (.dic (κ.dic eW s.1))), x4, some (.mu (.lst (s.2.map κ.E))), some (.im (κ.E p)), some (.im (.int (x.1 : Nat))), some (.im (κ.E x.2.1)), some (.im (.int x.2.2)), some (.im (.bl fine))] = some (eW (fp ++ [x.1])) := by
                refine op_eq (x := eW fp) (op_eq rfl rfl (by show gGet (κ.fd eW s.1) (κ.E p) = _; rw [κ.get', hp]; rfl)) (y := .tup [.int (x.1 : Nat)]) rfl ?_
                show (if (fp.map fun i => D.int (i : Nat)).length + 1 ≤ 1000 then some (D.tup ((fp.map fun i => D.int (i : Nat)) ++ [.int (x.1 : Nat)])) else none) = _
                rw [if_pos (by rw [List.length_map]; exact Nat.le_of_ble_eq_true h3)]
                unfold eW
                rw [List.map_append]
                rfl
              rw [then_nx (κ.sPut_eq eW (es := s.1) (c := x.2.1) (v := fp ++ [x.1]) rfl hc rfl h1)]
              refine ⟨_, sApp_eq (ds := s.2.map κ.E) (d := κ.E x.2.1) rfl rfl (by rw [List.length_map]; exact short_lt h2), x4, some (.im (.int (x.1 : Nat))), some (.im (κ.E x.2.1)), some (.im (.int x.2.2)), some (.im (.bl fine)), ?_⟩
              rw [List.map_append]
              rfl
def YR' (gD b : D) (Vo : Option (List (Nat × Int))) (s : YS) (σ : DSt) : Prop := ∃ x4 x6 x7 x8 x9 x10 : Option DV, σ = [some (.im gD), some (.im b), some (.im (κ.eV Vo)), some (.mu (.dic (κ.dic eW s.1))), x4, some (.mu (.lst (s.2.map κ.E))), x6, x7, x8, x9, x10]
theorem yp_step (G : GS) (b : D) (Vo : Option (List (Nat × Int))) (p : Nat) (s : YS) (σ : DSt) (o : O2 YS Empty) (r : κ.YR' (κ.fd κ.eEs G) b Vo s σ) (e : ypStep G Vo p s = some o) :
    ∃ σ1, gNm 6 (κ.E p) σ = some σ1 ∧ Sim (κ.YR' (κ.fd κ.eEs G) b Vo) (fun z => nomatch z) o (sFor fEdges gEdge yBody σ1) := by
  obtain ⟨x4, x6, x7, x8, x9, x10, rfl⟩ := r
  refine ⟨_, rfl, ?_⟩
  unfold ypStep at e
  cases hg : lookN G p with
  | none => rw [hg] at e; cases e
  | some es =>
    rw [hg] at e
    rw [for_eq (κ.edges_eq (G := G) (p := p) rfl rfl hg)]
    have q := for_sim (R := κ.YR (κ.fd κ.eEs G) b Vo p) (ret := fun z => nomatch z) (enc := fun x : Nat × (Nat × Int) => .tup [.int (x.1 : Nat), κ.eE x.2]) (κ.y_step (κ.fd κ.eEs G) b Vo p) (numN 0 es) s _ o ⟨x4, x7, x8, x9, x10, rfl⟩ e
    cases o with
    | rt z => exact nomatch z
    | nx s' =>
      obtain ⟨σ2, e2, y4, y7, y8, y9, y10, rfl⟩ := q
      exact ⟨_, e2, _, _, _, _, _, _, rfl⟩
def YW (gD b : D) (Vo : Option (List (Nat × Int))) (s : YS) (σ : DSt) : Prop := ∃ x4 x5 x6 x7 x8 x9 x10 : Option DV, σ = [some (.im gD), some (.im b), some (.im (κ.eV Vo)), some (.mu (.dic (κ.dic eW s.1))), x4, x5, x6, x7, x8, x9, x10] ∧ (x4 = some (.mu (.lst (s.2.map κ.E))) ∨ x4 = some (.im (.lst (s.2.map κ.E))))
abbrev yLoop : DSt → Option Out := (sThen (sSetN 5 (fLst fNil))
            (sThen
              (sFz 4
                (sFor (fSeq (fVar 4) D.asLst) (gNm 6)
                  (sFor fEdges gEdge yBody)))
              (sFz 5 (sSet 4 (fVar 5)))))
theorem y_test (gD b : D) (Vo : Option (List (Nat × Int))) (s : YS) (σ : DSt) (r : κ.YW gD b Vo s σ) : (fBl (fOp (gEq fun b => !b) (fVarR 4) (fFrz (fLst fNil)))) σ = some (yTest s) := by
  obtain ⟨x4, x5, x6, x7, x8, x9, x10, rfl, h⟩ := r
  rcases h with rfl | rfl
  · exact bl_eq (op_eq rfl rfl (κ.eq_nil _ _))
  · exact bl_eq (op_eq rfl rfl (κ.eq_nil _ _))
theorem y_while (G : GS) (b : D) (Vo : Option (List (Nat × Int))) (s : YS) (σ : DSt) (o : O2 YS Empty) (r : κ.YW (κ.fd κ.eEs G) b Vo s σ) (_ : yTest s = true) (e : yWhile G Vo s = some o) : Sim (κ.YW (κ.fd κ.eEs G) b Vo) (fun z => nomatch z) o (yLoop σ) := by
  obtain ⟨x4, x5, x6, x7, x8, x9, x10, rfl, h⟩ := r
  unfold yLoop
  rw [then_nx (σ' := [some (.im (κ.fd κ.eEs G)), some (.im b), some (.im (κ.eV Vo)), some (.mu (.dic (κ.dic eW s.1))), x4, some (.mu (.lst [])), x6, x7, x8, x9, x10]) rfl]
  have q := for_sim (κ.yp_step G b Vo) s.2 (s.1, []) [some (.im (κ.fd κ.eEs G)), some (.im b), some (.im (κ.eV Vo)), some (.mu (.dic (κ.dic eW s.1))), some (.im (.lst (s.2.map κ.E))), some (.mu (.lst [])), x6, x7, x8, x9, x10] o ⟨_, _, _, _, _, _, rfl⟩ e
  cases o with
  | rt z => exact nomatch z
  | nx z =>
    obtain ⟨σ2, e2, y4, y6, y7, y8, y9, y10, rfl⟩ := q
    have hfz : sFz 4 (sFor (fSeq (fVar 4) D.asLst) (gNm 6) (sFor fEdges gEdge yBody)) [some (.im (κ.fd κ.eEs G)), some (.im b), some (.im (κ.eV Vo)), some (.mu (.dic (κ.dic eW s.1))), x4, some (.mu (.lst [])), x6, x7, x8, x9, x10] =
        some (.nx [some (.im (κ.fd κ.eEs G)), some (.im b), some (.im (κ.eV Vo)), some (.mu (.dic (κ.dic eW z.1))), y4, some (.mu (.lst (z.2.map κ.E))), y6, y7, y8, y9, y10]) := by
      rcases h with rfl | rfl
      · exact (for_eq (ds := s.2.map κ.E) rfl).trans e2
      · exact (for_eq (ds := s.2.map κ.E) rfl).trans e2
    rw [then_nx hfz]
    exact ⟨_, rfl, some (.im (.lst (z.2.map κ.E))), some (.im (.lst (z.2.map κ.E))), y6, y7, y8, y9, y10, rfl, .inr rfl⟩
theorem ways_run {G : GS} {b : Nat} {Vo : Option (List (Nat × Int))} {F : List (Nat × List Nat)} (e : waysN G b Vo = some F) : runD 11 pWays.1 [κ.fd κ.eEs G, κ.E b, κ.eV Vo] = some (κ.fd eW F) := by
  have pe : pWays.1 = sThen (sPar [3, 4] (fCons (fMu (fDisp1 (fVarR 1) (fTup fNil))) (fCons (fMu (fLst (fCons (fVar 1) fNil))) fNil)))
      (sThen (wGo (fBl (fOp (gEq fun b => !b) (fVarR 4) (fFrz (fLst fNil)))) yLoop 4000) (sFz 3 (sRet (fVar 3)))) := rfl
  unfold runD
  rw [pe]
  show Option.map _ (sThen _ _ [some (.im (κ.fd κ.eEs G)), some (.im (κ.E b)), some (.im (κ.eV Vo)), none, none, none, none, none, none, none, none]) = _
  have par : (sPar [3, 4] (fCons (fMu (fDisp1 (fVarR 1) (fTup fNil))) (fCons (fMu (fLst (fCons (fVar 1) fNil))) fNil))) [some (.im (κ.fd κ.eEs G)), some (.im (κ.E b)), some (.im (κ.eV Vo)), none, none, none, none, none, none, none, none] =
      some (.nx [some (.im (κ.fd κ.eEs G)), some (.im (κ.E b)), some (.im (κ.eV Vo)), some (.mu (.dic (κ.dic eW [(b, [])]))), some (.mu (.lst ([b].map κ.E))), none, none, none, none, none, none]) := by
    have hk : fDisp1 (fVarR 1) (fTup fNil) [some (.im (κ.fd κ.eEs G)), some (.im (κ.E b)), some (.im (κ.eV Vo)), none, none, none, none, none, none, none, none] = some (.dic (κ.dic eW [(b, [])])) := by
      show ((keyOf (κ.E b)).bind fun k => some (MO.dic [(k, D.tup [])])) = _
      rw [κ.keyOf_E]
      rfl
    simp only [sPar, fCons, fMu, hk, Option.map_some, Option.bind_some]
    rfl
  rw [then_nx par]
  unfold waysN at e
  cases hw : whileO yTest (yWhile G Vo) 4000 ([(b, [])], [b]) with
  | none => rw [hw] at e; cases e
  | some o =>
    rw [hw] at e
    have q := while_sim (κ.y_test (κ.fd κ.eEs G) (κ.E b) Vo) (κ.y_while G (κ.E b) Vo) 4000 ([(b, [])], [b]) [some (.im (κ.fd κ.eEs G)), some (.im (κ.E b)), some (.im (κ.eV Vo)), some (.mu (.dic (κ.dic eW [(b, [])]))), some (.mu (.lst ([b].map κ.E))), none, none, none, none, none, none] o ⟨_, _, _, _, _, _, _, rfl, .inl rfl⟩ hw
    cases o with
    | rt z => exact nomatch z
    | nx s =>
      cases e
      obtain ⟨σ2, e2, x4, x5, x6, x7, x8, x9, x10, rfl, _⟩ := q
      rw [then_nx e2]
      rfl
end Cod
end Deep
set_option maxRecDepth 100000
set_option maxHeartbeats 4000000
namespace Deep
open PySem PySem.Spec PyProof.Rows L2
theorem for_simP {S ρ α : Type} {R : S → DSt → Prop} {ret : ρ → D} {g : D → DSt → Option DSt} {b : DSt → Option Out} {enc : α → D} {step : α → S → Option (O2 S ρ)} (Pa : α → Prop) (h : ∀ x s σ o, Pa x → R s σ → step x s = some o → ∃ σ1, g (enc x) σ = some σ1 ∧ Sim R ret o (b σ1)) :
    ∀ xs s σ o, (∀ x ∈ xs, Pa x) → R s σ → foldO step xs s = some o → Sim R ret o (forGo g b (xs.map enc) σ)
  | [], s, σ, o, _, r, e => by cases e; exact ⟨σ, rfl, r⟩
  | x :: xs, s, σ, o, hp, r, e => by
    rw [foldO] at e
    rw [List.map_cons, forGo]
    cases hx : step x s with
    | none => rw [hx] at e; cases e
    | some o1 =>
      rw [hx] at e
      obtain ⟨σ1, e1, q⟩ := h x s σ o1 (hp x List.mem_cons_self) r hx
      rw [e1, Option.bind_some]
      cases o1 with
      | rt r1 => cases e; rw [show b σ1 = some (.rt (ret r1)) from q, Option.bind_some]; rfl
      | nx s1 =>
        obtain ⟨σ2, e2, r2⟩ := q
        rw [e2, Option.bind_some]
        exact for_simP Pa h xs s1 σ2 o (fun y hy => hp y (List.mem_cons_of_mem _ hy)) r2 e
theorem lc_map {α : Type} {σ0 : DSt} {i : Nat} {fe : DSt → Option D} {enc f : α → D} : ∀ xs : List α, (∀ x ∈ xs, fe (σ0.set i (some (.im (enc x)))) = some (f x)) → lcGo σ0 (gNm i) fYes fe (xs.map enc) = some (xs.map f)
  | [], _ => rfl
  | x :: xs, h => by
    rw [List.map_cons, lcGo]
    show (fe (σ0.set i (some (.im (enc x))))).bind (fun y => (lcGo σ0 (gNm i) fYes fe (xs.map enc)).bind fun ys => some (y :: ys)) = _
    rw [h x List.mem_cons_self, Option.bind_some, lc_map xs fun y hy => h y (List.mem_cons_of_mem _ hy)]
    rfl
theorem look_put {β : Type} (c : Nat) (v : β) : ∀ es : List (Nat × β), lookN (putN es c v) c = some v
  | [] => by
    rw [putN, lookN, show eqN c c = true from eqN_iff.mpr rfl]
  | e :: es => by
    rw [putN]
    cases h : eqN e.1 c with
    | true => show lookN ((e.1, v) :: es) c = _; rw [lookN, show eqN e.1 c = true from h]
    | false => show lookN (e :: putN es c v) c = _; rw [lookN, h]; exact look_put c v es
abbrev QS := List Nat × US
def qEdge (e : Nat × Int) (s : QS) : Option (O2 QS Empty) := match lookN s.2 e.1 with
  | some _ => some (.nx s)
  | none => match short s.2, short s.1 with
    | true, true => some (.nx (s.1 ++ [e.1], putN s.2 e.1 ()))
    | _, _ => none
abbrev QW := GS × QS
def qWhile (nxs : Nat → List (Nat × Int)) (s : QW) : Option (O2 QW Empty) := match s.2.1.getLast? with
  | none => none
  | some c => match short s.1 with
    | false => none
    | true => match foldO qEdge (nxs c) (s.2.1.dropLast, s.2.2) with
      | some (.nx z) => match Nat.ble z.2.length 3000 with
        | true => some (.nx (putN s.1 c (nxs c), z))
        | false => none
      | _ => none
def qTest (s : QW) : Bool := !s.2.1.isEmpty
def graphN (nxs : Nat → List (Nat × Int)) (b : Nat) : Option GS := match whileO qTest (qWhile nxs) 4000 ([], [b], [(b, ())]) with
  | some (.nx s) => some s.1
  | _ => none
namespace Cod
variable (κ : Cod)
abbrev gGoal : D → DSt → Option DSt := gTp (gsCons (gNm 8) (gsCons (gNm 9) gsNil))
abbrev qBody : DSt → Option Out := sIf (fBl (fOp (gDIn true) (fVarR 8) (fVarR 6))) (sThen (sPut 6 (fVarR 8) (fC (D.bl true))) (sApp 5 (fVar 8))) sNil
def QR (x y t b : D) (P : Nat → Prop) (found : GS) (c : Nat) (s : QS) (σ : DSt) : Prop := (∀ c ∈ s.1, P c) ∧ ∃ x8 x9 x10 : Option DV, σ = [some (.im x), some (.im y), some (.im t), some (.im b), some (.mu (.dic (κ.dic κ.eEs found))), some (.mu (.lst (s.1.map κ.E))), some (.mu (.dic (κ.dic yes s.2))), some (.im (κ.E c)), x8, x9, x10]
theorem q_edge (x y t b : D) (P : Nat → Prop) (found : GS) (c : Nat) (e : Nat × Int) (s : QS) (σ : DSt) (o : O2 QS Empty) (pe : P e.1) (r : κ.QR x y t b P found c s σ) (h : qEdge e s = some o) :
    ∃ σ1, gGoal (κ.eE e) σ = some σ1 ∧ Sim (κ.QR x y t b P found c) (fun z => nomatch z) o (qBody σ1) := by
  obtain ⟨hp, x8, x9, x10, rfl⟩ := r
  refine ⟨[some (.im x), some (.im y), some (.im t), some (.im b), some (.mu (.dic (κ.dic κ.eEs found))), some (.mu (.lst (s.1.map κ.E))), some (.mu (.dic (κ.dic yes s.2))), some (.im (κ.E c)), some (.im (κ.E e.1)), some (.im (.int e.2)), x10], rfl, ?_⟩
  have ht : (fBl (fOp (gDIn true) (fVarR 8) (fVarR 6))) [some (.im x), some (.im y), some (.im t), some (.im b), some (.mu (.dic (κ.dic κ.eEs found))), some (.mu (.lst (s.1.map κ.E))), some (.mu (.dic (κ.dic yes s.2))), some (.im (κ.E c)), some (.im (κ.E e.1)), some (.im (.int e.2)), x10] = some (!(lookN s.2 e.1).isSome) := bl_eq (op_eq rfl rfl (κ.inD' yes _ _ true))
  unfold qEdge at h
  unfold qBody
  cases hk : lookN s.2 e.1 with
  | some u =>
    rw [hk] at h ht
    cases h
    rw [if_f ht]
    exact ⟨_, rfl, hp, _, _, _, rfl⟩
  | none =>
    rw [hk] at h ht
    have h : (match short s.2, short s.1 with
      | true, true => some (O2.nx (s.1 ++ [e.1], putN s.2 e.1 ()))
      | _, _ => none) = some o := h
    cases h1 : short s.2 with
    | false => rw [h1] at h; cases h
    | true =>
      cases h2 : short s.1 with
      | false => rw [h1, h2] at h; cases h
      | true =>
        rw [h1, h2] at h
        cases h
        rw [if_t ht, then_nx (κ.sPut_eq yes (es := s.2) (c := e.1) (v := ()) rfl rfl rfl h1)]
        refine ⟨_, sApp_eq (ds := s.1.map κ.E) (d := κ.E e.1) rfl rfl (by rw [List.length_map]; exact short_lt h2), fun d hd => ?_, some (.im (κ.E e.1)), some (.im (.int e.2)), x10, ?_⟩
        · rcases List.mem_append.mp hd with hd | hd
          · exact hp d hd
          · rw [List.mem_singleton.mp hd]; exact pe
        · rw [List.map_append]
          rfl
def QW' (x y t b : D) (P : Nat → Prop) (s : QW) (σ : DSt) : Prop := (∀ c ∈ s.2.1, P c) ∧ ∃ x7 x8 x9 x10 : Option DV, σ = [some (.im x), some (.im y), some (.im t), some (.im b), some (.mu (.dic (κ.dic κ.eEs s.1))), some (.mu (.lst (s.2.1.map κ.E))), some (.mu (.dic (κ.dic yes s.2.2))), x7, x8, x9, x10]
abbrev fNxs : DSt → Option MO := (fLc (fRng1 (fVar 2)) (gNm 10) fYes
                        (fCall (runD 6 pLNext.1)
                          (fCons (fVar 0) (fCons (fVar 1) (fCons (fVar 7) (fCons (fVar 10) fNil)))))
                        [10])
abbrev qLoop : DSt → Option Out := (sThen (sPop 7 5)
                (sThen
                  (sPut 4 (fVarR 7) (fFrz fNxs))
                  (sThen
                    (sFor (fSeq (fOp gGet (fVarR 4) (fVarR 7)) D.asLst) gGoal qBody)
                    (sIf
                      (fBl
                        (fOp (gI fun i j => D.bl (decide (j < i))) (fCall gLenD (fCons (fVarR 6) fNil))
                          (fC (D.int 3000))))
                      sNever sNil))))
theorem q_test (x y t b : D) (P : Nat → Prop) (s : QW) (σ : DSt) (r : κ.QW' x y t b P s σ) : (fBl (fOp (gEq fun b => !b) (fVarR 5) (fFrz (fLst fNil)))) σ = some (qTest s) := by
  obtain ⟨_, x7, x8, x9, x10, rfl⟩ := r
  exact bl_eq (op_eq rfl rfl (κ.eq_nil _ _))
theorem q_while (x y b : D) (t : Nat) (ht : t ≤ 1000) (P : Nat → Prop) (nx : Nat → Nat → Nat × Int) (hN : ∀ c, P c → ∀ a < t, runD 6 pLNext.1 [x, y, κ.E c, .int (a : Nat)] = some (κ.eE (nx c a)) ∧ P (nx c a).1) (nxs : Nat → List (Nat × Int)) (hnx : ∀ c, nxs c = (List.range t).map (nx c))
    (s : QW) (σ : DSt) (o : O2 QW Empty) (r : κ.QW' x y (.int (t : Nat)) b P s σ) (_ : qTest s = true) (e : qWhile nxs s = some o) : Sim (κ.QW' x y (.int (t : Nat)) b P) (fun z => nomatch z) o (qLoop σ) := by
  obtain ⟨hp, x7, x8, x9, x10, rfl⟩ := r
  unfold qWhile at e
  cases hl : s.2.1.getLast? with
  | none => rw [hl] at e; cases e
  | some c =>
    rw [hl] at e
    have e : (match short s.1 with
      | false => none
      | true => match foldO qEdge (nxs c) (s.2.1.dropLast, s.2.2) with
        | some (.nx z) => match Nat.ble z.2.length 3000 with
          | true => some (.nx (putN s.1 c (nxs c), z))
          | false => none
        | _ => none) = some o := e
    cases h1 : short s.1 with
    | false => rw [h1] at e; cases e
    | true =>
      rw [h1] at e
      have e : (match foldO qEdge (nxs c) (s.2.1.dropLast, s.2.2) with
        | some (.nx z) => match Nat.ble z.2.length 3000 with
          | true => some (O2.nx (putN s.1 c (nxs c), z))
          | false => none
        | _ => none) = some o := e
      cases hf : foldO qEdge (nxs c) (s.2.1.dropLast, s.2.2) with
      | none => rw [hf] at e; cases e
      | some o1 =>
        cases o1 with
        | rt z => exact nomatch z
        | nx z =>
          rw [hf] at e
          have e : (match Nat.ble z.2.length 3000 with
            | true => some (O2.nx (putN s.1 c (nxs c), z))
            | false => none) = some o := e
          cases hk : Nat.ble z.2.length 3000 with
          | false => rw [hk] at e; cases e
          | true =>
            rw [hk] at e
            cases e
            have pc : P c := hp c (List.mem_of_getLast? hl)
            have pop : sPop 7 5 [some (.im x), some (.im y), some (.im (.int (t : Nat))), some (.im b), some (.mu (.dic (κ.dic κ.eEs s.1))), some (.mu (.lst (s.2.1.map κ.E))), some (.mu (.dic (κ.dic yes s.2.2))), x7, x8, x9, x10] =
                some (.nx [some (.im x), some (.im y), some (.im (.int (t : Nat))), some (.im b), some (.mu (.dic (κ.dic κ.eEs s.1))), some (.mu (.lst (s.2.1.dropLast.map κ.E))), some (.mu (.dic (κ.dic yes s.2.2))), some (.im (κ.E c)), x8, x9, x10]) := by
              show Option.map Out.nx ((s.2.1.map κ.E).getLast?.map fun d => _) = _
              rw [List.getLast?_map, hl, List.map_dropLast]
              rfl
            have nxv : (fFrz fNxs) [some (.im x), some (.im y), some (.im (.int (t : Nat))), some (.im b), some (.mu (.dic (κ.dic κ.eEs s.1))), some (.mu (.lst (s.2.1.dropLast.map κ.E))), some (.mu (.dic (κ.dic yes s.2.2))), some (.im (κ.E c)), x8, x9, x10] = some (κ.eEs (nxs c)) := by
              have hr : fRng1 (fVar 2) [some (.im x), some (.im y), some (.im (.int (t : Nat))), some (.im b), some (.mu (.dic (κ.dic κ.eEs s.1))), some (.mu (.lst (s.2.1.dropLast.map κ.E))), some (.mu (.dic (κ.dic yes s.2.2))), some (.im (κ.E c)), x8, x9, x10] = some ((List.range t).map fun (i : Nat) => D.int (i : Nat)) := by
                show (if -1000000 ≤ ((t : Nat) : Int) ∧ ((t : Nat) : Int) ≤ 1000000 then some (rngD 0 ((t : Nat) : Int).toNat) else none) = _
                rw [if_pos ⟨by omega, by omega⟩, Int.toNat_natCast]
                unfold rngD
                congr 2
                funext i
                rw [Int.zero_add]
              unfold fFrz fNxs fLc
              rw [hr, Option.bind_some, if_pos (by rw [List.length_map, List.length_range]; omega), lc_map (f := fun a => κ.eE (nx c a)) _ fun a ha => ?_]
              · show some (D.lst ((List.range t).map fun a => κ.eE (nx c a))) = _
                unfold eEs
                rw [hnx, List.map_map]
                rfl
              · exact (hN c pc a (List.mem_range.mp ha)).1
            unfold qLoop
            rw [then_nx pop, then_nx (κ.sPut_eq κ.eEs (es := s.1) (c := c) (v := nxs c) rfl nxv rfl h1)]
            show Sim _ _ _ (sThen _ _ [some (.im x), some (.im y), some (.im (.int (t : Nat))), some (.im b), some (.mu (.dic (κ.dic κ.eEs (putN s.1 c (nxs c))))), some (.mu (.lst (s.2.1.dropLast.map κ.E))), some (.mu (.dic (κ.dic yes s.2.2))), some (.im (κ.E c)), x8, x9, x10])
            have q := for_simP (fun e : Nat × Int => P e.1) (κ.q_edge x y (.int (t : Nat)) b P (putN s.1 c (nxs c)) c) (nxs c) (s.2.1.dropLast, s.2.2) [some (.im x), some (.im y), some (.im (.int (t : Nat))), some (.im b), some (.mu (.dic (κ.dic κ.eEs (putN s.1 c (nxs c))))), some (.mu (.lst (s.2.1.dropLast.map κ.E))), some (.mu (.dic (κ.dic yes s.2.2))), some (.im (κ.E c)), x8, x9, x10] (.nx z)
              (fun e he => by
                rw [hnx] at he
                obtain ⟨a, ha, rfl⟩ := List.mem_map.mp he
                exact (hN c pc a (List.mem_range.mp ha)).2) ⟨fun d hd => hp d (List.dropLast_subset _ hd), x8, x9, x10, rfl⟩ hf
            obtain ⟨σ2, e2, hp2, y8, y9, y10, rfl⟩ := q
            have hfor : sFor (fSeq (fOp gGet (fVarR 4) (fVarR 7)) D.asLst) gGoal qBody [some (.im x), some (.im y), some (.im (.int (t : Nat))), some (.im b), some (.mu (.dic (κ.dic κ.eEs (putN s.1 c (nxs c))))), some (.mu (.lst (s.2.1.dropLast.map κ.E))), some (.mu (.dic (κ.dic yes s.2.2))), some (.im (κ.E c)), x8, x9, x10] = some (.nx [some (.im x), some (.im y), some (.im (.int (t : Nat))), some (.im b), some (.mu (.dic (κ.dic κ.eEs (putN s.1 c (nxs c))))), some (.mu (.lst (z.1.map κ.E))), some (.mu (.dic (κ.dic yes z.2))), some (.im (κ.E c)), y8, y9, y10]) := by
              refine (for_eq (ds := (nxs c).map κ.eE) ?_).trans e2
              unfold fSeq
              rw [op_eq (r := some (κ.eEs (nxs c))) rfl rfl (by show gGet (κ.fd κ.eEs (putN s.1 c (nxs c))) (κ.E c) = _; rw [κ.get', look_put]; rfl)]
              rfl
            rw [then_nx hfor, if_f]
            · exact ⟨_, rfl, hp2, some (.im (κ.E c)), y8, y9, y10, rfl⟩
            · refine bl_eq (op_eq (x := .int (z.2.length : Nat)) ?_ rfl ?_)
              · show some (D.int (((κ.dic yes z.2).map (·.1)).length : Nat)) = _
                rw [List.length_map, κ.dic_len]
              · show some (D.bl (decide ((3000 : Int) < (z.2.length : Nat)))) = _
                rw [decide_eq_false (by have := Nat.le_of_ble_eq_true hk; omega)]
theorem graph_run {x y : D} {t b : Nat} (ht : t ≤ 1000) {P : Nat → Prop} {nx : Nat → Nat → Nat × Int} (hN : ∀ c, P c → ∀ a < t, runD 6 pLNext.1 [x, y, κ.E c, .int (a : Nat)] = some (κ.eE (nx c a)) ∧ P (nx c a).1) {nxs : Nat → List (Nat × Int)} (hnx : ∀ c, nxs c = (List.range t).map (nx c))
    (hb : runD 2 pLBegin.1 [x, y] = some (κ.E b)) (pb : P b) {G : GS} (e : graphN nxs b = some G) : runD 11 pGraph.1 [x, y, .int (t : Nat)] = some (κ.fd κ.eEs G) := by
  have pe : pGraph.1 = sThen (sSet 3 (fCall (runD 2 pLBegin.1) (fCons (fVar 0) (fCons (fVar 1) fNil))))
      (sThen (sPar [4, 5] (fCons (fMu fNewD) (fCons (fMu (fLst (fCons (fVar 3) fNil))) fNil)))
        (sThen (sSetN 6 (fDisp1 (fVarR 3) (fC (D.bl true))))
          (sThen (wGo (fBl (fOp (gEq fun b => !b) (fVarR 5) (fFrz (fLst fNil)))) qLoop 4000) (sFz 4 (sRet (fVar 4)))))) := rfl
  unfold runD
  rw [pe]
  show Option.map _ (sThen _ _ [some (.im x), some (.im y), some (.im (.int (t : Nat))), none, none, none, none, none, none, none, none]) = _
  rw [then_nx (sSet_eq (d := κ.E b) hb)]
  show Option.map _ (sThen _ _ [some (.im x), some (.im y), some (.im (.int (t : Nat))), some (.im (κ.E b)), none, none, none, none, none, none, none]) = _
  rw [then_nx (σ' := [some (.im x), some (.im y), some (.im (.int (t : Nat))), some (.im (κ.E b)), some (.mu (.dic (κ.dic κ.eEs []))), some (.mu (.lst ([b].map κ.E))), none, none, none, none, none]) rfl]
  rw [then_nx (σ' := [some (.im x), some (.im y), some (.im (.int (t : Nat))), some (.im (κ.E b)), some (.mu (.dic (κ.dic κ.eEs []))), some (.mu (.lst ([b].map κ.E))), some (.mu (.dic (κ.dic yes [(b, ())]))), none, none, none, none]) (by
    have hk : fDisp1 (fVarR 3) (fC (D.bl true)) [some (.im x), some (.im y), some (.im (.int (t : Nat))), some (.im (κ.E b)), some (.mu (.dic (κ.dic κ.eEs []))), some (.mu (.lst ([b].map κ.E))), none, none, none, none, none] = some (.dic (κ.dic yes [(b, ())])) := by
      show ((keyOf (κ.E b)).bind fun k => some (MO.dic [(k, D.bl true)])) = _
      rw [κ.keyOf_E]
      rfl
    exact sSetN_eq hk)]
  unfold graphN at e
  cases hw : whileO qTest (qWhile nxs) 4000 ([], [b], [(b, ())]) with
  | none => rw [hw] at e; cases e
  | some o =>
    rw [hw] at e
    have q := while_sim (κ.q_test x y (.int (t : Nat)) (κ.E b) P) (κ.q_while x y (κ.E b) t ht P nx hN nxs hnx) 4000 ([], [b], [(b, ())]) [some (.im x), some (.im y), some (.im (.int (t : Nat))), some (.im (κ.E b)), some (.mu (.dic (κ.dic κ.eEs []))), some (.mu (.lst ([b].map κ.E))), some (.mu (.dic (κ.dic yes [(b, ())]))), none, none, none, none] o
      ⟨fun c hc => by rw [List.mem_singleton.mp hc]; exact pb, none, none, none, none, rfl⟩ hw
    cases o with
    | rt z => exact nomatch z
    | nx s =>
      cases e
      obtain ⟨σ2, e2, _, x7, x8, x9, x10, rfl⟩ := q
      rw [then_nx e2]
      rfl
end Cod
end Deep
set_option maxRecDepth 100000
set_option maxHeartbeats 4000000
namespace Deep
open PySem PySem.Spec PyProof.Rows L2
/-! ### best of whole numbers; filters; lead, lead_row, lead_loop -/
def eqOD : Option D → Option D → Bool
  | some (.int i), some (.int j) => decide (i = j)
  | _, _ => false
def hiI : Int → List Int → Int
  | a, [] => a
  | a, y :: ys => hiI (if a < y then y else a) ys
def loI : Int → List Int → Int
  | a, [] => a
  | a, y :: ys => loI (if y < a then y else a) ys
theorem pys_ints : ∀ is : List Int, pys (is.map D.int) = some (is.map PyData.int)
  | [] => by rw [List.map_nil, pys]; rfl
  | i :: is => by rw [List.map_cons, pys, D.py, pys_ints is]; rfl
theorem dep_ints : ∀ is : List Int, PyData.depthAll (is.map PyData.int) = 0
  | [] => by rw [List.map_nil, PyData.depthAll]
  | i :: is => by rw [List.map_cons, PyData.depthAll, dep_ints is, PyData.depth]; rfl
theorem okO_ints (is : List Int) : okO (is.map D.int) = true := by
  unfold okO
  rw [pys_ints]
  show okB (is.map PyData.int) = true
  unfold okB
  rw [Bool.and_eq_true, Bool.and_eq_true]
  refine ⟨⟨List.all_eq_true.mpr fun x hx => List.all_eq_true.mpr fun y hy => ?_, List.all_eq_true.mpr fun x hx => ?_⟩, ?_⟩
  · obtain ⟨a, _, rfl⟩ := List.mem_map.mp hx
    obtain ⟨b, _, rfl⟩ := List.mem_map.mp hy
    rw [PySem.W.alike]
  · obtain ⟨a, _, rfl⟩ := List.mem_map.mp hx
    rfl
  · rw [dep_ints]; rfl
theorem pyD_int (i : Int) : (D.int i).pyD = .int i := by
  unfold D.pyD
  rw [D.py]
  rfl
theorem hi_go : ∀ (a : Int) (is : List Int), (is.map D.int).foldl (fun a y => if PySem.W.dataLt a.pyD y.pyD = true then y else a) (.int a) = .int (hiI a is)
  | a, [] => rfl
  | a, y :: ys => by
    rw [List.map_cons, List.foldl_cons, pyD_int, pyD_int, PySem.W.dataLt_int, hiI]
    by_cases h : a < y
    · rw [if_pos (decide_eq_true h), if_pos h]; exact hi_go y ys
    · rw [if_neg (fun z => h (of_decide_eq_true z)), if_neg h]; exact hi_go a ys
theorem lo_go : ∀ (a : Int) (is : List Int), (is.map D.int).foldl (fun a y => if PySem.W.dataLt y.pyD a.pyD = true then y else a) (.int a) = .int (loI a is)
  | a, [] => rfl
  | a, y :: ys => by
    rw [List.map_cons, List.foldl_cons, pyD_int, pyD_int, PySem.W.dataLt_int, loI]
    by_cases h : y < a
    · rw [if_pos (decide_eq_true h), if_pos h]; exact lo_go y ys
    · rw [if_neg (fun z => h (of_decide_eq_true z)), if_neg h]; exact lo_go a ys
theorem gMax_ints (a : Int) (is : List Int) (d : D) (hd : d.asSeq = some ((a :: is).map D.int)) : gBest (fun y a => PySem.W.dataLt a y) [d] = some (.int (hiI a is)) := by
  show (d.asSeq.bind fun xs => if okO xs = true then bestO (fun y a => PySem.W.dataLt a y) xs else none) = _
  rw [hd, Option.bind_some, if_pos (okO_ints _)]
  show some ((is.map D.int).foldl (fun a y => if PySem.W.dataLt a.pyD y.pyD = true then y else a) (.int a)) = _
  rw [hi_go]
theorem gMin_ints (a : Int) (is : List Int) (d : D) (hd : d.asSeq = some ((a :: is).map D.int)) : gBest (fun y a => PySem.W.dataLt y a) [d] = some (.int (loI a is)) := by
  show (d.asSeq.bind fun xs => if okO xs = true then bestO (fun y a => PySem.W.dataLt y a) xs else none) = _
  rw [hd, Option.bind_some, if_pos (okO_ints _)]
  show some ((is.map D.int).foldl (fun a y => if PySem.W.dataLt y.pyD a.pyD = true then y else a) (.int a)) = _
  rw [lo_go]
def filtN {α β : Type} (p : α → Option Bool) (f : α → Option β) : List α → Option (List β)
  | [] => some []
  | x :: xs => match p x with
    | none => none
    | some false => filtN p f xs
    | some true => match f x with
      | none => none
      | some y => match filtN p f xs with
        | none => none
        | some ys => some (y :: ys)
theorem lc_filt {α β : Type} {σ0 : DSt} {i : Nat} {ft : DSt → Option Bool} {fe : DSt → Option D} {enc : α → D} {dec : β → D} {p : α → Option Bool} {f : α → Option β} (ht : ∀ x b, p x = some b → ft (σ0.set i (some (.im (enc x)))) = some b) (he : ∀ x y, f x = some y → fe (σ0.set i (some (.im (enc x)))) = some (dec y)) :
    ∀ (xs : List α) (ys : List β), filtN p f xs = some ys → lcGo σ0 (gNm i) ft fe (xs.map enc) = some (ys.map dec)
  | [], ys, h => by cases h; rfl
  | x :: xs, ys, h => by
    rw [filtN] at h
    rw [List.map_cons, lcGo]
    show ((ft (σ0.set i (some (.im (enc x))))).bind fun b => if b = true then (fe (σ0.set i (some (.im (enc x))))).bind (fun y => (lcGo σ0 (gNm i) ft fe (xs.map enc)).bind fun ys => some (y :: ys)) else lcGo σ0 (gNm i) ft fe (xs.map enc)) = _
    cases hp : p x with
    | none => rw [hp] at h; cases h
    | some b =>
      rw [ht x b hp, Option.bind_some]
      cases b with
      | false => rw [hp] at h; rw [if_neg Bool.false_ne_true]; exact lc_filt ht he xs ys h
      | true =>
        rw [hp] at h
        have h : (match f x with
          | none => none
          | some y => match filtN p f xs with
            | none => none
            | some ys => some (y :: ys)) = some ys := h
        rw [if_pos rfl]
        cases hf : f x with
        | none => rw [hf] at h; cases h
        | some y =>
          rw [hf] at h
          have h : (match filtN p f xs with
            | none => none
            | some ys => some (y :: ys)) = some ys := h
          cases hg : filtN p f xs with
          | none => rw [hg] at h; cases h
          | some zs =>
            rw [hg] at h
            cases h
            rw [he x y hf, Option.bind_some, lc_filt ht he xs zs hg]
            rfl
theorem lc_eq {σ : DSt} {fi : DSt → Option (List D)} {g : D → DSt → Option DSt} {ft : DSt → Option Bool} {fe : DSt → Option D} {vs : List Nat} {ds xs : List D} (h1 : fi σ = some ds) (h2 : ds.length ≤ 100000) (h3 : lcGo (wipeD σ vs) g ft fe ds = some xs) : fLc fi g ft fe vs σ = some (.lst xs) := by
  unfold fLc
  rw [h1, Option.bind_some, if_pos h2, h3]
  rfl
theorem frz_lst {f : DSt → Option MO} {σ : DSt} {xs : List D} (h : f σ = some (.lst xs)) : fFrz f σ = some (.lst xs) := by
  unfold fFrz
  rw [h]
  rfl
section
variable {α : Type} {m : List D → Option α} {r : Option α} {σ : DSt} {f1 f2 f3 f4 : DSt → Option D} {a b c d : D}
theorem call1 (h1 : f1 σ = some a) (h : m [a] = r) : fCall m (fCons f1 fNil) σ = r := by
  simp only [fCall, fCons, fNil, h1, Option.bind_some, h]
theorem call2 (h1 : f1 σ = some a) (h2 : f2 σ = some b) (h : m [a, b] = r) : fCall m (fCons f1 (fCons f2 fNil)) σ = r := by
  simp only [fCall, fCons, fNil, h1, h2, Option.bind_some, h]
theorem call3 (h1 : f1 σ = some a) (h2 : f2 σ = some b) (h3 : f3 σ = some c) (h : m [a, b, c] = r) : fCall m (fCons f1 (fCons f2 (fCons f3 fNil))) σ = r := by
  simp only [fCall, fCons, fNil, h1, h2, h3, Option.bind_some, h]
theorem tup2 (h1 : f1 σ = some a) (h2 : f2 σ = some b) : fTup (fCons f1 (fCons f2 fNil)) σ = some (.tup [a, b]) := by
  simp only [fTup, fCons, fNil, h1, h2, Option.bind_some]
  rfl
theorem drop_eq (h1 : f1 σ = some a) : sDrop f1 σ = some (.nx σ) := by
  unfold sDrop
  rw [h1]
  rfl
theorem asg_eq {g : D → DSt → Option DSt} {σ' : DSt} (h1 : f1 σ = some a) (h2 : g a σ = some σ') : sAsg f1 g σ = some (.nx σ') := by
  unfold sAsg
  rw [h1, Option.bind_some, h2]
  rfl
theorem ifv_t {k : DSt → Option Bool} (h : k σ = some true) : fIf k f1 f2 σ = f1 σ := by
  unfold fIf
  rw [h, Option.bind_some, if_pos rfl]
theorem ifv_f {k : DSt → Option Bool} (h : k σ = some false) : fIf k f1 f2 σ = f2 σ := by
  unfold fIf
  rw [h, Option.bind_some, if_neg Bool.false_ne_true]
end
def vals (V : List (Nat × Int)) : Option (List Int) := filtN (fun _ => some true) (fun c => lookN V c) (V.map (·.1))
/-- what lead_row takes the least of -/
def rowC (V : List (Nat × Int)) (mx : Int) (F : List (Nat × List Nat)) : Option (List (List Nat)) :=
  filtN (fun c => match lookN V c with | some v => some (decide (v = mx)) | none => none) (fun c => lookN F c) (F.map (·.1))
def rowK (r : List Nat) : D := .tup [.int (r.length : Nat), .tup (r.map fun i => .int (i : Nat))]
namespace Cod
variable (κ : Cod)
structure Asked (x y : D) (t : Nat) (G : GS) (b : Nat) : Prop where
  asked : runD 3 pAsked.1 [x, y, .int (t : Nat)] = some (κ.fd κ.eEs G)
  begin : runD 2 pLBegin.1 [x, y] = some (κ.E b)
theorem asked_run {x y d1 d2 d3 : D} {t b : Nat} {G : GS} (h1 : runD 1 pNeedShelf.1 [x] = some d1) (h2 : runD 1 pNeedShelf.1 [y] = some d2) (h3 : runD 1 pNeedThings.1 [.int (t : Nat)] = some d3) (hg : runD 11 pGraph.1 [x, y, .int (t : Nat)] = some (κ.fd κ.eEs G)) (hb : runD 2 pLBegin.1 [x, y] = some (κ.E b)) : κ.Asked x y t G b := by
  refine ⟨?_, hb⟩
  unfold runD
  show Option.map _ (sThen (sDrop (fCall (runD 1 pNeedShelf.1) (fCons (fVar 0) fNil))) (sThen (sDrop (fCall (runD 1 pNeedShelf.1) (fCons (fVar 1) fNil))) (sThen (sDrop (fCall (runD 1 pNeedThings.1) (fCons (fVar 2) fNil))) (sRet (fCall (runD 11 pGraph.1) (fCons (fVar 0) (fCons (fVar 1) (fCons (fVar 2) fNil))))))) [some (.im x), some (.im y), some (.im (.int (t : Nat)))]) = _
  rw [then_nx (drop_eq (call1 rfl h1)), then_nx (drop_eq (call1 rfl h2)), then_nx (drop_eq (call1 rfl h3)), ret_eq (call3 rfl rfl rfl hg)]
  rfl
theorem keysE {β : Type} (val : β → D) (es : List (Nat × β)) : (κ.fd val es).keys = some ((es.map (·.1)).map κ.E) := by
  show some (kds ((κ.dic val es).map (·.1))) = _
  rw [κ.keys]
theorem keysS {β : Type} {val : β → D} {es : List (Nat × β)} {σ : DSt} {i : Nat} (hi : fVar i σ = some (κ.fd val es)) : fSeq (fVar i) D.keys σ = some ((es.map (·.1)).map κ.E) := by
  unfold fSeq
  rw [hi, Option.bind_some, κ.keysE]
theorem vals_eq {σ : DSt} {i j : Nat} {V : List (Nat × Int)} {z : Int} {zs : List Int} (hi : fVar i σ = some (κ.fd eI V)) (hk : ∀ c, fOp gGet (fVarR i) (fVarR j) ((wipeD σ [j]).set j (some (.im (κ.E c)))) = gGet (κ.fd eI V) (κ.E c)) (hl : V.length ≤ 100000) (hv : vals V = some (z :: zs)) :
    fCall (gBest fun y a => PySem.W.dataLt a y) (fCons (fFrz (fLc (fSeq (fVar i) D.keys) (gNm j) fYes (fOp gGet (fVarR i) (fVarR j)) [j])) fNil) σ = some (.int (hiI z zs)) := by
  have h := lc_filt (σ0 := wipeD σ [j]) (i := j) (ft := fYes) (fe := fOp gGet (fVarR i) (fVarR j)) (enc := κ.E) (dec := D.int) (p := fun _ => some true) (f := fun c => lookN V c) (fun x b h => by cases h; rfl) (fun c v h => by rw [hk, κ.get', show lookN V c = some v from h]; rfl) (V.map fun e : Nat × Int => e.1) (z :: zs) hv
  exact call1 (frz_lst (lc_eq (κ.keysS hi) (by rw [List.length_map, List.length_map]; exact hl) h)) (gMax_ints z zs _ rfl)
theorem lead_run {x y : D} {t b : Nat} {G : GS} {V : List (Nat × Int)} {z : Int} {zs : List Int} (A : κ.Asked x y t G b) (e : valuesN G b = some (V, none)) (hl : V.length ≤ 100000) (hv : vals V = some (z :: zs)) : runD 7 pLead.1 [x, y, .int (t : Nat)] = some (.int (hiI z zs)) := by
  have pe : pLead.1 = sThen (sSet 3 (fCall (runD 3 pAsked.1) (fCons (fVar 0) (fCons (fVar 1) (fCons (fVar 2) fNil)))))
      (sThen (sAsg (fCall (runD 11 pValues.1) (fCons (fVar 3) (fCons (fCall (runD 2 pLBegin.1) (fCons (fVar 0) (fCons (fVar 1) fNil))) fNil))) (gTp (gsCons (gNm 4) (gsCons (gNm 5) gsNil))))
        (sRet (fIf (fBl (fOp (gIsN fun b => b) (fVarR 5) (fC D.non))) (fCall (gBest fun y a => PySem.W.dataLt a y) (fCons (fFrz (fLc (fSeq (fVar 4) D.keys) (gNm 6) fYes (fOp gGet (fVarR 4) (fVarR 6)) [6])) fNil)) (fC D.non)))) := rfl
  unfold runD
  rw [pe]
  show Option.map _ (sThen _ _ [some (.im x), some (.im y), some (.im (.int (t : Nat))), none, none, none, none]) = _
  rw [then_nx (sSet_eq (call3 rfl rfl rfl A.asked))]
  show Option.map _ (sThen _ _ [some (.im x), some (.im y), some (.im (.int (t : Nat))), some (.im (κ.fd κ.eEs G)), none, none, none]) = _
  rw [then_nx (asg_eq (call2 rfl (call2 rfl rfl A.begin) (κ.values_run e)) (σ' := [some (.im x), some (.im y), some (.im (.int (t : Nat))), some (.im (κ.fd κ.eEs G)), some (.im (κ.fd eI V)), some (.im .non), none]) rfl)]
  rw [ret_eq (d := .int (hiI z zs))]
  · rfl
  · rw [ifv_t rfl]
    exact κ.vals_eq rfl (fun c => rfl) hl hv
theorem lead_none {x y : D} {t b : Nat} {G : GS} {V : List (Nat × Int)} {q : Nat × List Nat} (A : κ.Asked x y t G b) (e : valuesN G b = some (V, some q)) : runD 7 pLead.1 [x, y, .int (t : Nat)] = some .non := by
  have pe : pLead.1 = sThen (sSet 3 (fCall (runD 3 pAsked.1) (fCons (fVar 0) (fCons (fVar 1) (fCons (fVar 2) fNil)))))
      (sThen (sAsg (fCall (runD 11 pValues.1) (fCons (fVar 3) (fCons (fCall (runD 2 pLBegin.1) (fCons (fVar 0) (fCons (fVar 1) fNil))) fNil))) (gTp (gsCons (gNm 4) (gsCons (gNm 5) gsNil))))
        (sRet (fIf (fBl (fOp (gIsN fun b => b) (fVarR 5) (fC D.non))) (fCall (gBest fun y a => PySem.W.dataLt a y) (fCons (fFrz (fLc (fSeq (fVar 4) D.keys) (gNm 6) fYes (fOp gGet (fVarR 4) (fVarR 6)) [6])) fNil)) (fC D.non)))) := rfl
  unfold runD
  rw [pe]
  show Option.map _ (sThen _ _ [some (.im x), some (.im y), some (.im (.int (t : Nat))), none, none, none, none]) = _
  rw [then_nx (sSet_eq (call3 rfl rfl rfl A.asked))]
  show Option.map _ (sThen _ _ [some (.im x), some (.im y), some (.im (.int (t : Nat))), some (.im (κ.fd κ.eEs G)), none, none, none]) = _
  rw [then_nx (asg_eq (call2 rfl (call2 rfl rfl A.begin) (κ.values_run e)) (σ' := [some (.im x), some (.im y), some (.im (.int (t : Nat))), some (.im (κ.fd κ.eEs G)), some (.im (κ.fd eI V)), some (.im (κ.eR q)), none]) rfl)]
  rw [ret_eq (d := .non)]
  · rfl
  · rw [ifv_f rfl]
    rfl
theorem row_run {x y : D} {t b : Nat} {G : GS} {V : List (Nat × Int)} {z : Int} {zs : List Int} {F : List (Nat × List Nat)} {rs : List (List Nat)} {n : Int} {row : List Nat} (A : κ.Asked x y t G b) (e : valuesN G b = some (V, none)) (hl : V.length ≤ 100000) (hv : vals V = some (z :: zs)) (hw : waysN G b (some V) = some F) (hlF : F.length ≤ 100000)
    (hr : rowC V (hiI z zs) F = some rs) (hm : gBest (fun y a => PySem.W.dataLt y a) [.lst (rs.map rowK)] = some (.tup [.int n, eW row])) : runD 10 pRow.1 [x, y, .int (t : Nat)] = some (eW row) := by
  have pe : pRow.1 = sThen (sSet 3 (fCall (runD 3 pAsked.1) (fCons (fVar 0) (fCons (fVar 1) (fCons (fVar 2) fNil)))))
      (sThen (sSet 4 (fCall (runD 2 pLBegin.1) (fCons (fVar 0) (fCons (fVar 1) fNil))))
      (sThen (sAsg (fCall (runD 11 pValues.1) (fCons (fVar 3) (fCons (fVar 4) fNil))) (gTp (gsCons (gNm 5) (gsCons (gNm 6) gsNil))))
      (sThen (sIf (fBl (fOp (gIsN fun b => !b) (fVarR 6) (fC D.non))) (sRet (fC D.non)) sNil)
      (sThen (sSet 7 (fCall (gBest fun y a => PySem.W.dataLt a y) (fCons (fFrz (fLc (fSeq (fVar 5) D.keys) (gNm 9) fYes (fOp gGet (fVarR 5) (fVarR 9)) [9])) fNil)))
      (sThen (sSet 8 (fCall (runD 11 pWays.1) (fCons (fVar 3) (fCons (fVar 4) (fCons (fVar 5) fNil)))))
      (sRet (fOp gIx (fCall (gBest fun y a => PySem.W.dataLt y a) (fCons (fFrz (fLc (fSeq (fVar 8) D.keys) (gNm 9) (fBl (fOp (gEq fun b => b) (fOp gGet (fVarR 5) (fVarR 9)) (fVarR 7)))
        (fTup (fCons (fCall gLen (fCons (fOp gGet (fVarR 8) (fVarR 9)) fNil)) (fCons (fOp gGet (fVarR 8) (fVarR 9)) fNil))) [9])) fNil)) (fC (D.int 1))))))))) := rfl
  unfold runD
  rw [pe]
  show Option.map _ (sThen _ _ [some (.im x), some (.im y), some (.im (.int (t : Nat))), none, none, none, none, none, none, none]) = _
  rw [then_nx (sSet_eq (call3 rfl rfl rfl A.asked)), then_nx (sSet_eq (call2 rfl rfl A.begin))]
  show Option.map _ (sThen _ _ [some (.im x), some (.im y), some (.im (.int (t : Nat))), some (.im (κ.fd κ.eEs G)), some (.im (κ.E b)), none, none, none, none, none]) = _
  rw [then_nx (asg_eq (call2 rfl rfl (κ.values_run e)) (σ' := [some (.im x), some (.im y), some (.im (.int (t : Nat))), some (.im (κ.fd κ.eEs G)), some (.im (κ.E b)), some (.im (κ.fd eI V)), some (.im .non), none, none, none]) rfl)]
  rw [then_nx (if_f rfl)]
  rw [then_nx (sSet_eq (d := .int (hiI z zs)) (κ.vals_eq rfl (fun c => rfl) hl hv))]
  show Option.map _ (sThen _ _ [some (.im x), some (.im y), some (.im (.int (t : Nat))), some (.im (κ.fd κ.eEs G)), some (.im (κ.E b)), some (.im (κ.fd eI V)), some (.im .non), some (.im (.int (hiI z zs))), none, none]) = _
  rw [then_nx (sSet_eq (call3 rfl rfl rfl (κ.ways_run (Vo := some V) hw)))]
  show Option.map _ (sRet _ [some (.im x), some (.im y), some (.im (.int (t : Nat))), some (.im (κ.fd κ.eEs G)), some (.im (κ.E b)), some (.im (κ.fd eI V)), some (.im .non), some (.im (.int (hiI z zs))), some (.im (κ.fd eW F)), none]) = _
  rw [ret_eq (d := eW row)]
  · rfl
  · have h := lc_filt (σ0 := wipeD [some (.im x), some (.im y), some (.im (.int (t : Nat))), some (.im (κ.fd κ.eEs G)), some (.im (κ.E b)), some (.im (κ.fd eI V)), some (.im .non), some (.im (.int (hiI z zs))), some (.im (κ.fd eW F)), none] [9]) (i := 9)
      (ft := fBl (fOp (gEq fun b => b) (fOp gGet (fVarR 5) (fVarR 9)) (fVarR 7))) (fe := fTup (fCons (fCall gLen (fCons (fOp gGet (fVarR 8) (fVarR 9)) fNil)) (fCons (fOp gGet (fVarR 8) (fVarR 9)) fNil)))
      (enc := κ.E) (dec := rowK) (p := fun c => match lookN V c with | some v => some (decide (v = hiI z zs)) | none => none) (f := fun c => lookN F c) (fun c b h => by
        cases hV : lookN V c with
        | none => simp only [hV] at h; cases h
        | some v =>
          simp only [hV] at h
          cases h
          exact bl_eq (op_eq (op_eq rfl rfl (by show gGet (κ.fd eI V) (κ.E c) = some (.int v); rw [κ.get', hV]; rfl)) rfl (eq_int _ _ _))) (fun c r h => by
        have hg : (fOp gGet (fVarR 8) (fVarR 9)) ((wipeD [some (.im x), some (.im y), some (.im (.int (t : Nat))), some (.im (κ.fd κ.eEs G)), some (.im (κ.E b)), some (.im (κ.fd eI V)), some (.im .non), some (.im (.int (hiI z zs))), some (.im (κ.fd eW F)), none] [9]).set 9 (some (.im (κ.E c)))) = some (eW r) :=
          op_eq rfl rfl (by show gGet (κ.fd eW F) (κ.E c) = _; rw [κ.get', show lookN F c = some r from h]; rfl)
        refine tup2 (call1 hg ?_) hg
        show some (D.int ((r.map fun i => D.int (i : Nat)).length : Nat)) = _
        rw [List.length_map]) (F.map fun e : Nat × List Nat => e.1) rs hr
    exact op_eq (call1 (frz_lst (lc_eq (κ.keysS rfl) (by rw [List.length_map, List.length_map]; exact hlF) h)) hm) rfl rfl
theorem row_none {x y : D} {t b : Nat} {G : GS} {V : List (Nat × Int)} {q : Nat × List Nat} (A : κ.Asked x y t G b) (e : valuesN G b = some (V, some q)) : runD 10 pRow.1 [x, y, .int (t : Nat)] = some .non := by
  have pe : pRow.1 = sThen (sSet 3 (fCall (runD 3 pAsked.1) (fCons (fVar 0) (fCons (fVar 1) (fCons (fVar 2) fNil)))))
      (sThen (sSet 4 (fCall (runD 2 pLBegin.1) (fCons (fVar 0) (fCons (fVar 1) fNil))))
      (sThen (sAsg (fCall (runD 11 pValues.1) (fCons (fVar 3) (fCons (fVar 4) fNil))) (gTp (gsCons (gNm 5) (gsCons (gNm 6) gsNil))))
      (sThen (sIf (fBl (fOp (gIsN fun b => !b) (fVarR 6) (fC D.non))) (sRet (fC D.non)) sNil)
      (sThen (sSet 7 (fCall (gBest fun y a => PySem.W.dataLt a y) (fCons (fFrz (fLc (fSeq (fVar 5) D.keys) (gNm 9) fYes (fOp gGet (fVarR 5) (fVarR 9)) [9])) fNil)))
      (sThen (sSet 8 (fCall (runD 11 pWays.1) (fCons (fVar 3) (fCons (fVar 4) (fCons (fVar 5) fNil)))))
      (sRet (fOp gIx (fCall (gBest fun y a => PySem.W.dataLt y a) (fCons (fFrz (fLc (fSeq (fVar 8) D.keys) (gNm 9) (fBl (fOp (gEq fun b => b) (fOp gGet (fVarR 5) (fVarR 9)) (fVarR 7)))
        (fTup (fCons (fCall gLen (fCons (fOp gGet (fVarR 8) (fVarR 9)) fNil)) (fCons (fOp gGet (fVarR 8) (fVarR 9)) fNil))) [9])) fNil)) (fC (D.int 1))))))))) := rfl
  unfold runD
  rw [pe]
  show Option.map _ (sThen _ _ [some (.im x), some (.im y), some (.im (.int (t : Nat))), none, none, none, none, none, none, none]) = _
  rw [then_nx (sSet_eq (call3 rfl rfl rfl A.asked)), then_nx (sSet_eq (call2 rfl rfl A.begin))]
  show Option.map _ (sThen _ _ [some (.im x), some (.im y), some (.im (.int (t : Nat))), some (.im (κ.fd κ.eEs G)), some (.im (κ.E b)), none, none, none, none, none]) = _
  rw [then_nx (asg_eq (call2 rfl rfl (κ.values_run e)) (σ' := [some (.im x), some (.im y), some (.im (.int (t : Nat))), some (.im (κ.fd κ.eEs G)), some (.im (κ.E b)), some (.im (κ.fd eI V)), some (.im (κ.eR q)), none, none, none]) rfl)]
  rw [then_rt (d := .non)]
  · rfl
  · rw [if_t rfl]
    rfl
abbrev pLoopE : DSt → Option Out := sThen (sSet 3 (fCall (runD 3 pAsked.1) (fCons (fVar 0) (fCons (fVar 1) (fCons (fVar 2) fNil)))))
      (sThen (sSet 4 (fCall (runD 2 pLBegin.1) (fCons (fVar 0) (fCons (fVar 1) fNil))))
      (sThen (sSet 5 (fOp gIx (fCall (runD 11 pValues.1) (fCons (fVar 3) (fCons (fVar 4) fNil))) (fC (D.int 1))))
      (sRet (fIf (fBl (fOp (gIsN fun b => !b) (fVarR 5) (fC D.non))) (fTup (fCons (fOp gGet (fCall (runD 11 pWays.1) (fCons (fVar 3) (fCons (fVar 4) (fCons (fC D.non) fNil)))) (fOp gIx (fVarR 5) (fC (D.int 0)))) (fCons (fOp gIx (fVarR 5) (fC (D.int 1))) fNil))) (fC D.non)))))
theorem loop_run {x y : D} {t b : Nat} {G : GS} {V : List (Nat × Int)} {q : Nat × List Nat} {F : List (Nat × List Nat)} {h : List Nat} (A : κ.Asked x y t G b) (e : valuesN G b = some (V, some q)) (hw : waysN G b none = some F) (hh : lookN F q.1 = some h) : runD 6 pLoop.1 [x, y, .int (t : Nat)] = some (.tup [eW h, eW q.2]) := by
  have pe : pLoop.1 = pLoopE := rfl
  unfold runD
  rw [pe]
  show Option.map _ (sThen _ _ [some (.im x), some (.im y), some (.im (.int (t : Nat))), none, none, none]) = _
  rw [then_nx (sSet_eq (call3 rfl rfl rfl A.asked)), then_nx (sSet_eq (call2 rfl rfl A.begin))]
  show Option.map _ (sThen _ _ [some (.im x), some (.im y), some (.im (.int (t : Nat))), some (.im (κ.fd κ.eEs G)), some (.im (κ.E b)), none]) = _
  rw [then_nx (sSet_eq (d := κ.eR q) (op_eq (call2 rfl rfl (κ.values_run e)) rfl rfl))]
  show Option.map _ (sRet _ [some (.im x), some (.im y), some (.im (.int (t : Nat))), some (.im (κ.fd κ.eEs G)), some (.im (κ.E b)), some (.im (κ.eR q))]) = _
  rw [ret_eq (d := .tup [eW h, eW q.2])]
  · rfl
  · rw [ifv_t rfl]
    exact tup2 (op_eq (call3 rfl rfl rfl (κ.ways_run (Vo := none) hw)) (y := κ.E q.1) rfl (by rw [κ.get', hh]; rfl)) rfl
theorem loop_none {x y : D} {t b : Nat} {G : GS} {V : List (Nat × Int)} (A : κ.Asked x y t G b) (e : valuesN G b = some (V, none)) : runD 6 pLoop.1 [x, y, .int (t : Nat)] = some .non := by
  have pe : pLoop.1 = pLoopE := rfl
  unfold runD
  rw [pe]
  show Option.map _ (sThen _ _ [some (.im x), some (.im y), some (.im (.int (t : Nat))), none, none, none]) = _
  rw [then_nx (sSet_eq (call3 rfl rfl rfl A.asked)), then_nx (sSet_eq (call2 rfl rfl A.begin))]
  show Option.map _ (sThen _ _ [some (.im x), some (.im y), some (.im (.int (t : Nat))), some (.im (κ.fd κ.eEs G)), some (.im (κ.E b)), none]) = _
  rw [then_nx (sSet_eq (d := .non) (op_eq (call2 rfl rfl (κ.values_run e)) rfl rfl))]
  show Option.map _ (sRet _ [some (.im x), some (.im y), some (.im (.int (t : Nat))), some (.im (κ.fd κ.eEs G)), some (.im (κ.E b)), some (.im .non)]) = _
  rw [ret_eq (d := .non)]
  · rfl
  · rw [ifv_f rfl]
    rfl
end Cod
end Deep
set_option maxRecDepth 100000
set_option maxHeartbeats 4000000
namespace Deep
open PySem PySem.Spec PyProof.Rows L2
/-! ### equality that the kernel can run; kinds of shelves by tables -/
mutual
def beqD : D → D → Bool
  | .non, .non => true
  | .bl a, .bl b => match a, b with
    | true, true => true
    | false, false => true
    | _, _ => false
  | .int a, .int b => decide (a = b)
  | .str a, .str b => decide (a = b)
  | .tup a, .tup b => beqDs a b
  | .lst a, .lst b => beqDs a b
  | _, _ => false
def beqDs : List D → List D → Bool
  | [], [] => true
  | a :: as, b :: bs => match beqD a b with
    | true => beqDs as bs
    | false => false
  | _, _ => false
end
mutual
theorem beqD_eq : ∀ {a b : D}, beqD a b = true → a = b
  | .non, b, h => by cases b <;> first | rfl | (simp [beqD] at h)
  | .bl x, b, h => by
    cases b with
    | bl y => cases x <;> cases y <;> first | rfl | (simp [beqD] at h)
    | _ => simp [beqD] at h
  | .int x, b, h => by
    cases b with
    | int y => simp only [beqD, decide_eq_true_eq] at h; rw [h]
    | _ => simp [beqD] at h
  | .str x, b, h => by
    cases b with
    | str y => simp only [beqD, decide_eq_true_eq] at h; rw [h]
    | _ => simp [beqD] at h
  | .tup x, b, h => by
    cases b with
    | tup y => rw [beqD] at h; rw [beqDs_eq h]
    | _ => simp [beqD] at h
  | .lst x, b, h => by
    cases b with
    | lst y => rw [beqD] at h; rw [beqDs_eq h]
    | _ => simp [beqD] at h
  | .dic x y, b, h => by cases b <;> simp [beqD] at h
  | .dicK x y, b, h => by cases b <;> simp [beqD] at h
  | .adr x, b, h => by cases b <;> simp [beqD] at h
theorem beqDs_eq : ∀ {a b : List D}, beqDs a b = true → a = b
  | [], b, h => by cases b <;> first | rfl | (simp [beqDs] at h)
  | x :: xs, b, h => by
    cases b with
    | nil => simp [beqDs] at h
    | cons y ys =>
      rw [beqDs] at h
      cases e : beqD x y with
      | false => rw [e] at h; cases h
      | true => rw [e] at h; rw [beqD_eq e, beqDs_eq h]
end
def eqO (o : Option D) (d : D) : Bool := match o with
  | some e => beqD e d
  | none => false
theorem eqO_eq {o : Option D} {d : D} (h : eqO o d = true) : o = some d := by
  cases o with
  | none => cases h
  | some e => rw [beqD_eq (show beqD e d = true from h)]
theorem and_tt {a b : Bool} (h : (match a with | true => b | false => false) = true) : a = true ∧ b = true := by
  cases a with
  | true => exact ⟨rfl, h⟩
  | false => cases h
def allB {α : Type} (p : α → Bool) : List α → Bool
  | [] => true
  | x :: xs => match p x with
    | true => allB p xs
    | false => false
theorem allB_mem {α : Type} {p : α → Bool} : ∀ {xs : List α}, allB p xs = true → ∀ x ∈ xs, p x = true
  | y :: ys, h, x, hx => by
    rw [allB] at h
    cases e : p y with
    | false => rw [e] at h; cases h
    | true =>
      rw [e] at h
      rcases List.mem_cons.mp hx with rfl | hx
      · exact e
      · exact allB_mem (show allB p ys = true from h) x hx
structure Sh where
  r : Str
  m : Int
  st : List NestedKey
  nx : List (List (Nat × Bool))
namespace Sh
def d (S : Sh) : D := kD S.r S.m
def go (S : Sh) (i a : Nat) : Option (Nat × Bool) := match S.nx[i]? with
  | some row => row[a]?
  | none => none
def stepB (S : Sh) (i a : Nat) : Bool := match S.st[i]?, S.go i a with
  | some s, some q => match S.st[q.1]? with
    | some s' => eqO (runD 3 pNext.1 [S.d, kd s, .int (a : Nat)]) (.tup [kd s', .bl q.2])
    | none => false
  | _, _ => false
def nod : List NestedKey → Bool
  | [] => true
  | k :: ks => match allB (fun l => !NestedKey.beq k l) ks with
    | true => nod ks
    | false => false
def ok (S : Sh) : Bool := nod S.st && (allB (fun k => Nat.ble k.depth 6 && noText k) S.st && (Nat.ble S.st.length 64 && (allB (fun i => allB (fun a => S.stepB i a) [0, 1, 2]) (List.range S.st.length) &&
  ((match S.st with | s :: _ => eqO (runD 1 pBegin.1 [S.d]) (kd s) | [] => false) && eqO (runD 1 pNeedShelf.1 [S.d]) .non))))
theorem nod_inj : ∀ {ks : List NestedKey} {i j : Nat} {k : NestedKey}, nod ks = true → ks[i]? = some k → ks[j]? = some k → i = j
  | [], i, j, k, _, h, _ => by cases h
  | l :: ks, i, j, k, hn, hi, hj => by
    rw [nod] at hn
    cases e : allB (fun z => !NestedKey.beq l z) ks with
    | false => rw [e] at hn; cases hn
    | true =>
      rw [e] at hn
      have no : ∀ z ∈ ks, l ≠ z := fun z hz h => by
        have := allB_mem e z hz
        subst h
        rw [NestedKey.beq_self] at this
        cases this
      cases i with
      | zero =>
        cases hi
        cases j with
        | zero => rfl
        | succ j => exact absurd rfl (no _ (List.mem_of_getElem? hj))
      | succ i =>
        cases j with
        | zero => cases hj; exact absurd rfl (no _ (List.mem_of_getElem? hi))
        | succ j => rw [nod_inj (ks := ks) (show nod ks = true from hn) hi hj]
structure Ok (S : Sh) : Prop where
  nod : nod S.st = true
  dep : ∀ k ∈ S.st, k.depth ≤ 6 ∧ noText k = true
  len : S.st.length ≤ 64
  step : ∀ i < S.st.length, ∀ a < 3, ∃ s q s', S.st[i]? = some s ∧ S.go i a = some q ∧ S.st[q.1]? = some s' ∧ runD 3 pNext.1 [S.d, kd s, .int (a : Nat)] = some (.tup [kd s', .bl q.2])
  begin : ∃ s, S.st[0]? = some s ∧ runD 1 pBegin.1 [S.d] = some (kd s)
  need : runD 1 pNeedShelf.1 [S.d] = some .non
theorem ok_of {S : Sh} (h : S.ok = true) : S.Ok := by
  unfold ok at h
  rw [Bool.and_eq_true, Bool.and_eq_true, Bool.and_eq_true, Bool.and_eq_true, Bool.and_eq_true] at h
  obtain ⟨h1, h2, h3, h4, h5, h6⟩ := h
  refine ⟨h1, fun k hk => ?_, Nat.le_of_ble_eq_true h3, fun i hi a ha => ?_, ?_, eqO_eq h6⟩
  · have := allB_mem h2 k hk
    rw [Bool.and_eq_true] at this
    exact ⟨Nat.le_of_ble_eq_true this.1, this.2⟩
  · have h := allB_mem (allB_mem h4 i (List.mem_range.mpr hi)) a (by
      match a, ha with
      | 0, _ => simp
      | 1, _ => simp
      | 2, _ => simp)
    unfold stepB at h
    cases e1 : S.st[i]? with
    | none => rw [e1] at h; cases h
    | some s =>
      cases e2 : S.go i a with
      | none => rw [e1, e2] at h; cases h
      | some q =>
        rw [e1, e2] at h
        have h : (match S.st[q.1]? with
          | some s' => eqO (runD 3 pNext.1 [S.d, kd s, .int (a : Nat)]) (.tup [kd s', .bl q.2])
          | none => false) = true := h
        cases e3 : S.st[q.1]? with
        | none => rw [e3] at h; cases h
        | some s' =>
          rw [e3] at h
          exact ⟨s, q, s', rfl, rfl, e3, eqO_eq h⟩
  · cases e : S.st with
    | nil => rw [e] at h5; cases h5
    | cons s ss => rw [e] at h5; exact ⟨s, rfl, eqO_eq h5⟩
end Sh
def pk (S T : Sh) (c : Nat) : NestedKey := match S.st[c / 64]?, T.st[c % 64]? with
  | some a, some b => .tup [a, b]
  | _, _ => .tup [.num (c : Nat)]
theorem pk_cases (S T : Sh) (c : Nat) : (∃ a b, S.st[c / 64]? = some a ∧ T.st[c % 64]? = some b ∧ pk S T c = .tup [a, b]) ∨ pk S T c = .tup [.num (c : Nat)] := by
  unfold pk
  cases h1 : S.st[c / 64]? with
  | none => exact .inr rfl
  | some a =>
    cases h2 : T.st[c % 64]? with
    | none => exact .inr rfl
    | some b => exact .inl ⟨a, b, rfl, rfl, rfl⟩
def codOf (S T : Sh) (hS : S.Ok) (hT : T.Ok) : Cod where
  key := pk S T
  inj := fun c e h => by
    rcases pk_cases S T c with ⟨a, b, h1, h2, h3⟩ | h3 <;> rcases pk_cases S T e with ⟨a', b', h1', h2', h3'⟩ | h3'
    · rw [h3, h3'] at h
      injection h with h
      injection h with ha h
      injection h with hb h
      subst ha hb
      have e1 := Sh.nod_inj hS.nod h1 h1'
      have e2 := Sh.nod_inj hT.nod h2 h2'
      omega
    · rw [h3, h3'] at h
      injection h with h
      injection h with ha h
      cases h
    · rw [h3, h3'] at h
      injection h with h
      injection h with ha h
      cases h
    · rw [h3, h3'] at h
      injection h with h
      injection h with h
      injection h with h
      omega
  tup := fun c => by
    rcases pk_cases S T c with ⟨a, b, h1, h2, h3⟩ | h3
    · exact ⟨_, h3⟩
    · exact ⟨_, h3⟩
  dep := fun c => by
    rcases pk_cases S T c with ⟨a, b, h1, h2, h3⟩ | h3
    · rw [h3]
      have x := (hS.dep a (List.mem_of_getElem? h1)).1
      have y := (hT.dep b (List.mem_of_getElem? h2)).1
      rw [NestedKey.depth, NestedKey.depthAll, NestedKey.depthAll, NestedKey.depthAll]
      omega
    · rw [h3, NestedKey.depth, NestedKey.depthAll, NestedKey.depthAll, NestedKey.depth]
      omega
  nt := fun c => by
    rcases pk_cases S T c with ⟨a, b, h1, h2, h3⟩ | h3
    · rw [h3, noText, noTexts, noTexts, noTexts, (hS.dep a (List.mem_of_getElem? h1)).2, (hT.dep b (List.mem_of_getElem? h2)).2]
      rfl
    · rw [h3, noText, noTexts, noTexts, noText]
      rfl
def moreI : Bool → Bool → Int
  | true, true => 0
  | true, false => -1
  | false, true => 1
  | false, false => 0
def nxp (S T : Sh) (c a : Nat) : Nat × Int := match S.go (c / 64) a, T.go (c % 64) a with
  | some q, some p => (q.1 * 64 + p.1, moreI q.2 p.2)
  | _, _ => (0, 0)
def nxsp (S T : Sh) (t c : Nat) : List (Nat × Int) := (List.range t).map (nxp S T c)
theorem next_run {x y a b a' b' : D} {h1 h2 : Bool} {k : D} (e1 : runD 3 pNext.1 [x, a, k] = some (.tup [a', .bl h1])) (e2 : runD 3 pNext.1 [y, b, k] = some (.tup [b', .bl h2])) :
    runD 6 pLNext.1 [x, y, .tup [a, b], k] = some (.tup [.tup [a', b'], .int (moreI h1 h2)]) := by
  have pe : pLNext.1 = sThen (sPar [4, 5] (fCons (fIm (fCall (runD 3 pNext.1) (fCons (fVar 0) (fCons (fOp gIx (fVarR 2) (fC (D.int 0))) (fCons (fVar 3) fNil))))) (fCons (fIm (fCall (runD 3 pNext.1) (fCons (fVar 1) (fCons (fOp gIx (fVarR 2) (fC (D.int 1))) (fCons (fVar 3) fNil))))) fNil)))
      (sRet (fTup (fCons (fTup (fCons (fOp gIx (fVarR 4) (fC (D.int 0))) (fCons (fOp gIx (fVarR 5) (fC (D.int 0))) fNil))) (fCons (fOp (gI fun i j => D.int (i - j)) (fIf (fBl (fOp gIx (fVarR 5) (fC (D.int 1)))) (fC (D.int 1)) (fC (D.int 0))) (fIf (fBl (fOp gIx (fVarR 4) (fC (D.int 1)))) (fC (D.int 1)) (fC (D.int 0)))) fNil)))) := rfl
  unfold runD
  rw [pe]
  show Option.map _ (sThen _ _ [some (.im x), some (.im y), some (.im (.tup [a, b])), some (.im k), none, none]) = _
  have c1 : fCall (runD 3 pNext.1) (fCons (fVar 0) (fCons (fOp gIx (fVarR 2) (fC (D.int 0))) (fCons (fVar 3) fNil))) [some (.im x), some (.im y), some (.im (.tup [a, b])), some (.im k), none, none] = some (.tup [a', .bl h1]) := call3 rfl rfl rfl e1
  have c2 : fCall (runD 3 pNext.1) (fCons (fVar 1) (fCons (fOp gIx (fVarR 2) (fC (D.int 1))) (fCons (fVar 3) fNil))) [some (.im x), some (.im y), some (.im (.tup [a, b])), some (.im k), none, none] = some (.tup [b', .bl h2]) := call3 rfl rfl rfl e2
  rw [then_nx (σ' := [some (.im x), some (.im y), some (.im (.tup [a, b])), some (.im k), some (.im (.tup [a', .bl h1])), some (.im (.tup [b', .bl h2]))]) (by
    simp only [sPar, fCons, fIm, c1, c2, Option.map_some, Option.bind_some, fNil]
    rfl)]
  cases h1 <;> cases h2 <;> rfl
theorem kd_pair (a b : NestedKey) : kd (.tup [a, b]) = .tup [kd a, kd b] := by rw [kd, kds, kds, kds]
def PV (S T : Sh) (c : Nat) : Prop := c / 64 < S.st.length ∧ c % 64 < T.st.length
section
variable {S T : Sh} (hS : S.Ok) (hT : T.Ok)
theorem E_at {c : Nat} {a b : NestedKey} (h1 : S.st[c / 64]? = some a) (h2 : T.st[c % 64]? = some b) : (codOf S T hS hT).E c = .tup [kd a, kd b] := by
  show kd (pk S T c) = _
  unfold pk
  rw [h1, h2]
  exact kd_pair a b
theorem nxp_ok {t c a : Nat} (ht : t ≤ 3) (pc : PV S T c) (ha : a < t) : runD 6 pLNext.1 [S.d, T.d, (codOf S T hS hT).E c, .int (a : Nat)] = some ((codOf S T hS hT).eE (nxp S T c a)) ∧ PV S T (nxp S T c a).1 := by
  obtain ⟨s, q, s', g1, g2, g3, g4⟩ := hS.step (c / 64) pc.1 a (by omega)
  obtain ⟨u, p, u', k1, k2, k3, k4⟩ := hT.step (c % 64) pc.2 a (by omega)
  have en : nxp S T c a = (q.1 * 64 + p.1, moreI q.2 p.2) := by
    unfold nxp
    rw [g2, k2]
  have lq : q.1 < S.st.length := (List.getElem?_eq_some_iff.mp g3).1
  have lp : p.1 < T.st.length := (List.getElem?_eq_some_iff.mp k3).1
  have l64 := hT.len
  have d1 : (q.1 * 64 + p.1) / 64 = q.1 := by omega
  have d2 : (q.1 * 64 + p.1) % 64 = p.1 := by omega
  refine ⟨?_, ?_⟩
  · rw [E_at hS hT g1 k1, next_run g4 k4, en]
    show _ = some (D.tup [(codOf S T hS hT).E (q.1 * 64 + p.1), .int (moreI q.2 p.2)])
    rw [E_at hS hT (c := q.1 * 64 + p.1) (by rw [d1]; exact g3) (by rw [d2]; exact k3)]
  · rw [en]
    show (q.1 * 64 + p.1) / 64 < _ ∧ (q.1 * 64 + p.1) % 64 < _
    rw [d1, d2]
    exact ⟨lq, lp⟩
theorem begin_ok : runD 2 pLBegin.1 [S.d, T.d] = some ((codOf S T hS hT).E 0) ∧ PV S T 0 := by
  obtain ⟨s, g1, g2⟩ := hS.begin
  obtain ⟨u, k1, k2⟩ := hT.begin
  refine ⟨?_, (List.getElem?_eq_some_iff.mp g1).1, (List.getElem?_eq_some_iff.mp k1).1⟩
  rw [E_at hS hT (c := 0) g1 k1]
  unfold runD
  show Option.map _ (sRet (fTup (fCons (fCall (runD 1 pBegin.1) (fCons (fVar 0) fNil)) (fCons (fCall (runD 1 pBegin.1) (fCons (fVar 1) fNil)) fNil))) [some (.im S.d), some (.im T.d)]) = _
  rw [ret_eq (tup2 (call1 rfl g2) (call1 rfl k2))]
  rfl
theorem things_ok {t : Nat} (h1 : 1 ≤ t) (h3 : t ≤ 3) : runD 1 pNeedThings.1 [.int (t : Nat)] = some .non := by
  match t, h1, h3 with
  | 1, _, _ => exact eqO_eq (by decide +kernel)
  | 2, _, _ => exact eqO_eq (by decide +kernel)
  | 3, _, _ => exact eqO_eq (by decide +kernel)
theorem asked_ok {t : Nat} {G : GS} (h1 : 1 ≤ t) (h3 : t ≤ 3) (e : graphN (nxsp S T t) 0 = some G) : (codOf S T hS hT).Asked S.d T.d t G 0 :=
  (codOf S T hS hT).asked_run hS.need hT.need (things_ok h1 h3) ((codOf S T hS hT).graph_run (t := t) (by omega) (P := PV S T) (nx := nxp S T) (fun c pc a ha => nxp_ok hS hT h3 pc ha) (fun c => rfl) (begin_ok hS hT).1 (begin_ok hS hT).2 e) (begin_ok hS hT).1
end
end Deep
set_option maxRecDepth 100000
set_option maxHeartbeats 0
namespace Deep
open PySem PySem.Spec PyProof.Rows L2
def hEldest1 : Sh where
  r := "eldest"
  m := 1
  st := [(.tup []), (.tup [(.num 0)]), (.tup [(.num 1)]), (.tup [(.num 2)])]
  nx := [[(1, false), (2, false), (3, false)], [(1, true), (2, false), (3, false)], [(1, false), (2, true), (3, false)], [(1, false), (2, false), (3, true)]]
theorem hEldest1_ok : hEldest1.Ok := Sh.ok_of (by decide +kernel)
def hEldest2 : Sh where
  r := "eldest"
  m := 2
  st := [(.tup []), (.tup [(.num 0)]), (.tup [(.num 1)]), (.tup [(.num 2)]), (.tup [(.num 0), (.num 1)]), (.tup [(.num 0), (.num 2)]), (.tup [(.num 1), (.num 0)]), (.tup [(.num 1), (.num 2)]), (.tup [(.num 2), (.num 0)]), (.tup [(.num 2), (.num 1)])]
  nx := [[(1, false), (2, false), (3, false)], [(1, true), (4, false), (5, false)], [(6, false), (2, true), (7, false)], [(8, false), (9, false), (3, true)], [(4, true), (4, true), (7, false)], [(5, true), (9, false), (5, true)], [(6, true), (6, true), (5, false)], [(8, false), (7, true), (7, true)], [(8, true), (4, false), (8, true)], [(6, false), (9, true), (9, true)]]
theorem hEldest2_ok : hEldest2.Ok := Sh.ok_of (by decide +kernel)
def hLately1 : Sh where
  r := "lately"
  m := 1
  st := [(.tup []), (.tup [(.num 0)]), (.tup [(.num 1)]), (.tup [(.num 2)])]
  nx := [[(1, false), (2, false), (3, false)], [(1, true), (2, false), (3, false)], [(1, false), (2, true), (3, false)], [(1, false), (2, false), (3, true)]]
theorem hLately1_ok : hLately1.Ok := Sh.ok_of (by decide +kernel)
def hLately2 : Sh where
  r := "lately"
  m := 2
  st := [(.tup []), (.tup [(.num 0)]), (.tup [(.num 1)]), (.tup [(.num 2)]), (.tup [(.num 0), (.num 1)]), (.tup [(.num 0), (.num 2)]), (.tup [(.num 1), (.num 0)]), (.tup [(.num 1), (.num 2)]), (.tup [(.num 2), (.num 0)]), (.tup [(.num 2), (.num 1)])]
  nx := [[(1, false), (2, false), (3, false)], [(1, true), (4, false), (5, false)], [(6, false), (2, true), (7, false)], [(8, false), (9, false), (3, true)], [(6, true), (4, true), (7, false)], [(8, true), (9, false), (5, true)], [(6, true), (4, true), (5, false)], [(8, false), (9, true), (7, true)], [(8, true), (4, false), (5, true)], [(6, false), (9, true), (7, true)]]
theorem hLately2_ok : hLately2.Ok := Sh.ok_of (by decide +kernel)
def hNewest1 : Sh where
  r := "newest"
  m := 1
  st := [(.tup []), (.tup [(.num 0)]), (.tup [(.num 1)]), (.tup [(.num 2)])]
  nx := [[(1, false), (2, false), (3, false)], [(1, true), (2, false), (3, false)], [(1, false), (2, true), (3, false)], [(1, false), (2, false), (3, true)]]
theorem hNewest1_ok : hNewest1.Ok := Sh.ok_of (by decide +kernel)
def hNewest2 : Sh where
  r := "newest"
  m := 2
  st := [(.tup []), (.tup [(.num 0)]), (.tup [(.num 1)]), (.tup [(.num 2)]), (.tup [(.num 0), (.num 1)]), (.tup [(.num 0), (.num 2)]), (.tup [(.num 1), (.num 0)]), (.tup [(.num 1), (.num 2)]), (.tup [(.num 2), (.num 0)]), (.tup [(.num 2), (.num 1)])]
  nx := [[(1, false), (2, false), (3, false)], [(1, true), (4, false), (5, false)], [(6, false), (2, true), (7, false)], [(8, false), (9, false), (3, true)], [(4, true), (4, true), (5, false)], [(5, true), (4, false), (5, true)], [(6, true), (6, true), (7, false)], [(6, false), (7, true), (7, true)], [(8, true), (9, false), (8, true)], [(8, false), (9, true), (9, true)]]
theorem hNewest2_ok : hNewest2.Ok := Sh.ok_of (by decide +kernel)
def hSeldom1 : Sh where
  r := "seldom"
  m := 1
  st := [(.tup []), (.tup [(.tup [(.num 0), (.num 1)])]), (.tup [(.tup [(.num 1), (.num 1)])]), (.tup [(.tup [(.num 2), (.num 1)])]), (.tup [(.tup [(.num 0), (.num 2)])]), (.tup [(.tup [(.num 1), (.num 2)])]), (.tup [(.tup [(.num 2), (.num 2)])])]
  nx := [[(1, false), (2, false), (3, false)], [(4, true), (2, false), (3, false)], [(1, false), (5, true), (3, false)], [(1, false), (2, false), (6, true)], [(4, true), (2, false), (3, false)], [(1, false), (5, true), (3, false)], [(1, false), (2, false), (6, true)]]
theorem hSeldom1_ok : hSeldom1.Ok := Sh.ok_of (by decide +kernel)
def hSeldom2 : Sh where
  r := "seldom"
  m := 2
  st := [(.tup []), (.tup [(.tup [(.num 0), (.num 1)])]), (.tup [(.tup [(.num 1), (.num 1)])]), (.tup [(.tup [(.num 2), (.num 1)])]), (.tup [(.tup [(.num 0), (.num 2)])]), (.tup [(.tup [(.num 0), (.num 1)]), (.tup [(.num 1), (.num 1)])]), (.tup [(.tup [(.num 0), (.num 1)]), (.tup [(.num 2), (.num 1)])]), (.tup [(.tup [(.num 1), (.num 1)]), (.tup [(.num 0), (.num 1)])]), (.tup [(.tup [(.num 1), (.num 2)])]), (.tup [(.tup [(.num 1), (.num 1)]), (.tup [(.num 2), (.num 1)])]), (.tup [(.tup [(.num 2), (.num 1)]), (.tup [(.num 0), (.num 1)])]), (.tup [(.tup [(.num 2), (.num 1)]), (.tup [(.num 1), (.num 1)])]), (.tup [(.tup [(.num 2), (.num 2)])]), (.tup [(.tup [(.num 0), (.num 2)]), (.tup [(.num 1), (.num 1)])]), (.tup [(.tup [(.num 0), (.num 2)]), (.tup [(.num 2), (.num 1)])]), (.tup [(.tup [(.num 0), (.num 1)]), (.tup [(.num 1), (.num 2)])]), (.tup [(.tup [(.num 0), (.num 1)]), (.tup [(.num 2), (.num 2)])]), (.tup [(.tup [(.num 1), (.num 1)]), (.tup [(.num 0), (.num 2)])]), (.tup [(.tup [(.num 1), (.num 2)]), (.tup [(.num 0), (.num 1)])]), (.tup [(.tup [(.num 1), (.num 2)]), (.tup [(.num 2), (.num 1)])]), (.tup [(.tup [(.num 1), (.num 1)]), (.tup [(.num 2), (.num 2)])]), (.tup [(.tup [(.num 2), (.num 1)]), (.tup [(.num 0), (.num 2)])]), (.tup [(.tup [(.num 2), (.num 2)]), (.tup [(.num 0), (.num 1)])]), (.tup [(.tup [(.num 2), (.num 1)]), (.tup [(.num 1), (.num 2)])]), (.tup [(.tup [(.num 2), (.num 2)]), (.tup [(.num 1), (.num 1)])]), (.tup [(.tup [(.num 0), (.num 2)]), (.tup [(.num 1), (.num 2)])]), (.tup [(.tup [(.num 0), (.num 2)]), (.tup [(.num 2), (.num 2)])]), (.tup [(.tup [(.num 1), (.num 2)]), (.tup [(.num 0), (.num 2)])]), (.tup [(.tup [(.num 1), (.num 2)]), (.tup [(.num 2), (.num 2)])]), (.tup [(.tup [(.num 2), (.num 2)]), (.tup [(.num 0), (.num 2)])]), (.tup [(.tup [(.num 2), (.num 2)]), (.tup [(.num 1), (.num 2)])])]
  nx := [[(1, false), (2, false), (3, false)], [(4, true), (5, false), (6, false)], [(7, false), (8, true), (9, false)], [(10, false), (11, false), (12, true)], [(4, true), (13, false), (14, false)], [(13, true), (15, true), (9, false)], [(14, true), (11, false), (16, true)], [(17, true), (18, true), (6, false)], [(18, false), (8, true), (19, false)], [(10, false), (19, true), (20, true)], [(21, true), (5, false), (22, true)], [(7, false), (23, true), (24, true)], [(22, false), (24, false), (12, true)], [(13, true), (25, true), (14, false)], [(14, true), (13, false), (26, true)], [(25, true), (15, true), (19, false)], [(26, true), (24, false), (16, true)], [(17, true), (27, true), (14, false)], [(27, true), (18, true), (19, false)], [(18, false), (19, true), (28, true)], [(22, false), (28, true), (20, true)], [(21, true), (13, false), (29, true)], [(29, true), (24, false), (22, true)], [(18, false), (23, true), (30, true)], [(22, false), (30, true), (24, true)], [(25, true), (25, true), (19, false)], [(26, true), (24, false), (26, true)], [(27, true), (27, true), (14, false)], [(22, false), (28, true), (28, true)], [(29, true), (13, false), (29, true)], [(18, false), (30, true), (30, true)]]
theorem hSeldom2_ok : hSeldom2.Ok := Sh.ok_of (by decide +kernel)
def hBest1 : Sh where
  r := "best"
  m := 1
  st := [(.tup [(.tup [(.tup []), (.num 0)])]), (.tup [(.tup [(.tup [(.num 0)]), (.num 0)])]), (.tup [(.tup [(.tup [(.num 1)]), (.num 0)])]), (.tup [(.tup [(.tup [(.num 2)]), (.num 0)])])]
  nx := [[(1, false), (2, false), (3, false)], [(1, true), (2, false), (3, false)], [(1, false), (2, true), (3, false)], [(1, false), (2, false), (3, true)]]
theorem hBest1_ok : hBest1.Ok := Sh.ok_of (by decide +kernel)
def hBest2 : Sh where
  r := "best"
  m := 2
  st := [(.tup [(.tup [(.tup []), (.num 0)])]), (.tup [(.tup [(.tup [(.num 0)]), (.num 0)])]), (.tup [(.tup [(.tup [(.num 1)]), (.num 0)])]), (.tup [(.tup [(.tup [(.num 2)]), (.num 0)])]), (.tup [(.tup [(.tup [(.num 0), (.num 1)]), (.num 0)])]), (.tup [(.tup [(.tup [(.num 0), (.num 2)]), (.num 0)])]), (.tup [(.tup [(.tup [(.num 1), (.num 2)]), (.num 0)])]), (.tup [(.tup [(.tup [(.num 0), (.num 2)]), (.num 0)]), (.tup [(.tup [(.num 1), (.num 2)]), (.num 0)])]), (.tup [(.tup [(.tup [(.num 0), (.num 1)]), (.num 0)]), (.tup [(.tup [(.num 1), (.num 2)]), (.num 0)])]), (.tup [(.tup [(.tup [(.num 0), (.num 1)]), (.num 0)]), (.tup [(.tup [(.num 0), (.num 2)]), (.num 0)])]), (.tup [(.tup [(.tup [(.num 0), (.num 1)]), (.num 1)]), (.tup [(.tup [(.num 0), (.num 2)]), (.num 0)])]), (.tup [(.tup [(.tup [(.num 0), (.num 1)]), (.num 1)]), (.tup [(.tup [(.num 1), (.num 2)]), (.num 0)])]), (.tup [(.tup [(.tup [(.num 0), (.num 1)]), (.num 0)]), (.tup [(.tup [(.num 0), (.num 2)]), (.num 1)])]), (.tup [(.tup [(.tup [(.num 0), (.num 2)]), (.num 1)]), (.tup [(.tup [(.num 1), (.num 2)]), (.num 0)])]), (.tup [(.tup [(.tup [(.num 0), (.num 1)]), (.num 0)]), (.tup [(.tup [(.num 1), (.num 2)]), (.num 1)])]), (.tup [(.tup [(.tup [(.num 0), (.num 2)]), (.num 0)]), (.tup [(.tup [(.num 1), (.num 2)]), (.num 1)])])]
  nx := [[(1, false), (2, false), (3, false)], [(1, true), (4, false), (5, false)], [(4, false), (2, true), (6, false)], [(5, false), (6, false), (3, true)], [(4, true), (4, true), (7, false)], [(5, true), (8, false), (5, true)], [(9, false), (6, true), (6, true)], [(10, true), (11, true), (7, true)], [(12, true), (8, true), (13, true)], [(9, true), (14, true), (15, true)], [(10, true), (8, false), (5, true)], [(9, false), (11, true), (6, true)], [(12, true), (4, true), (7, false)], [(9, false), (6, true), (13, true)], [(4, true), (14, true), (7, false)], [(5, true), (8, false), (15, true)]]
theorem hBest2_ok : hBest2.Ok := Sh.ok_of (by decide +kernel)
end Deep
set_option maxRecDepth 100000
set_option maxHeartbeats 4000000
namespace Deep
open PySem PySem.Spec PyProof.Rows L2
/-! ### leads by rows, shelf by shelf -/
def hitOf : D → Option Bool
  | .tup [.bl b, _] => some b
  | _ => none
theorem hitOf_some {c : D} {b : Bool} (h : hitOf c = some b) : ∃ x, c = .tup [.bl b, x] := by
  unfold hitOf at h
  split at h
  · cases h; exact ⟨_, rfl⟩
  · cases h
def cntD : List D → Option Nat
  | [] => some 0
  | c :: cs => match hitOf c with
    | some b => match cntD cs with
      | some n => match b with
        | true => some (n + 1)
        | false => some n
      | none => none
    | none => none
def hitsD (x : D) (row : List Nat) : Option Nat := match runD 9 pTold.1 [x, Cod.eW row] with
  | some (.tup [.lst cs, _]) => match Nat.ble cs.length 1000 with
    | true => cntD cs
    | false => none
  | _ => none
theorem cnt_lc {σ0 : DSt} {σ1 : DSt} (h0 : σ0.length = 6) : ∀ {cs : List D} {n : Nat}, cntD cs = some n → ∃ ys, lcGo σ0 (gNm 5) (fBl (fOp gIx (fVarR 5) (fC (D.int 0)))) (fVar 5) cs = some ys ∧ ys.length = n
  | [], n, h => by cases h; exact ⟨[], rfl, rfl⟩
  | c :: cs, n, h => by
    rw [cntD] at h
    cases hc : hitOf c with
    | none => simp only [hc] at h; cases h
    | some b =>
      obtain ⟨x, rfl⟩ := hitOf_some hc
      simp only [hc] at h
      cases e : cntD cs with
      | none => simp only [e] at h; cases h
      | some k =>
        simp only [e] at h
        obtain ⟨ys, e1, l1⟩ := cnt_lc (σ1 := σ1) h0 e
        have hs : fVarR 5 (σ0.set 5 (some (.im (.tup [.bl b, x])))) = some (.tup [.bl b, x]) := by
          unfold fVarR
          rw [List.getElem?_set_self (by omega)]
        have hs2 : fVar 5 (σ0.set 5 (some (.im (.tup [.bl b, x])))) = some (.tup [.bl b, x]) := by
          unfold fVar
          rw [List.getElem?_set_self (by omega)]
        have ht : fBl (fOp gIx (fVarR 5) (fC (D.int 0))) (σ0.set 5 (some (.im (.tup [.bl b, x])))) = some b := bl_eq (op_eq hs rfl rfl)
        rw [lcGo]
        cases b with
        | true =>
          cases h
          refine ⟨.tup [.bl true, x] :: ys, ?_, by rw [List.length_cons, l1]⟩
          show ((fBl (fOp gIx (fVarR 5) (fC (D.int 0))) (σ0.set 5 (some (.im (.tup [.bl true, x]))))).bind fun b => if b = true then _ else _) = _
          rw [ht, Option.bind_some, if_pos rfl, hs2, Option.bind_some, e1]
          rfl
        | false =>
          cases h
          refine ⟨ys, ?_, l1⟩
          show ((fBl (fOp gIx (fVarR 5) (fC (D.int 0))) (σ0.set 5 (some (.im (.tup [.bl false, x]))))).bind fun b => if b = true then _ else _) = _
          rw [ht, Option.bind_some, if_neg Bool.false_ne_true, e1]
theorem hits_told {x : D} {row : List Nat} {n : Nat} (h : hitsD x row = some n) : ∃ cs l, runD 9 pTold.1 [x, Cod.eW row] = some (.tup [.lst cs, l]) ∧ cntD cs = some n ∧ cs.length ≤ 1000 := by
  unfold hitsD at h
  split at h
  · rename_i cs l e
    cases hb : Nat.ble cs.length 1000 with
    | false => simp only [hb] at h; cases h
    | true =>
      simp only [hb] at h
      exact ⟨cs, l, e, h, Nat.le_of_ble_eq_true hb⟩
  · cases h
theorem by_run {x y : D} {row : List Nat} {n k : Nat} (h1 : hitsD x row = some n) (h2 : hitsD y row = some k) : runD 6 pBy.1 [x, y, Cod.eW row] = some (.int ((k : Int) - (n : Int))) := by
  have pe : pBy.1 = sThen (sPar [3, 4] (fCons (fIm (fOp gIx (fCall (runD 9 pTold.1) (fCons (fVar 0) (fCons (fVar 2) fNil))) (fC (D.int 0)))) (fCons (fIm (fOp gIx (fCall (runD 9 pTold.1) (fCons (fVar 1) (fCons (fVar 2) fNil))) (fC (D.int 0)))) fNil)))
      (sRet (fOp (gI fun i j => D.int (i - j)) (fCall gLen (fCons (fFrz (fLc (fSeq (fVar 4) D.asLst) (gNm 5) (fBl (fOp gIx (fVarR 5) (fC (D.int 0)))) (fVar 5) [5])) fNil)) (fCall gLen (fCons (fFrz (fLc (fSeq (fVar 3) D.asLst) (gNm 5) (fBl (fOp gIx (fVarR 5) (fC (D.int 0)))) (fVar 5) [5])) fNil)))) := rfl
  obtain ⟨cs, l, e1, c1, l1⟩ := hits_told h1
  obtain ⟨ds, m, e2, c2, l2⟩ := hits_told h2
  unfold runD
  rw [pe]
  show Option.map _ (sThen _ _ [some (.im x), some (.im y), some (.im (Cod.eW row)), none, none, none]) = _
  have a1 : fOp gIx (fCall (runD 9 pTold.1) (fCons (fVar 0) (fCons (fVar 2) fNil))) (fC (D.int 0)) [some (.im x), some (.im y), some (.im (Cod.eW row)), none, none, none] = some (.lst cs) := op_eq (call2 rfl rfl e1) rfl rfl
  have a2 : fOp gIx (fCall (runD 9 pTold.1) (fCons (fVar 1) (fCons (fVar 2) fNil))) (fC (D.int 0)) [some (.im x), some (.im y), some (.im (Cod.eW row)), none, none, none] = some (.lst ds) := op_eq (call2 rfl rfl e2) rfl rfl
  rw [then_nx (σ' := [some (.im x), some (.im y), some (.im (Cod.eW row)), some (.im (.lst cs)), some (.im (.lst ds)), none]) (by
    simp only [sPar, fCons, fIm, a1, a2, Option.map_some, Option.bind_some, fNil]
    rfl)]
  have len : ∀ (i : Nat) (zs : List D) (q : Nat), fVar i [some (.im x), some (.im y), some (.im (Cod.eW row)), some (.im (.lst cs)), some (.im (.lst ds)), none] = some (.lst zs) → cntD zs = some q → zs.length ≤ 1000 →
      fCall gLen (fCons (fFrz (fLc (fSeq (fVar i) D.asLst) (gNm 5) (fBl (fOp gIx (fVarR 5) (fC (D.int 0)))) (fVar 5) [5])) fNil) [some (.im x), some (.im y), some (.im (Cod.eW row)), some (.im (.lst cs)), some (.im (.lst ds)), none] = some (.int (q : Nat)) := fun i zs q hi hc hl => by
    obtain ⟨ys, e3, e4⟩ := cnt_lc (σ0 := wipeD [some (.im x), some (.im y), some (.im (Cod.eW row)), some (.im (.lst cs)), some (.im (.lst ds)), none] [5]) (σ1 := []) rfl hc
    refine call1 (frz_lst (lc_eq (ds := zs) ?_ (by omega) e3)) ?_
    · unfold fSeq
      rw [hi]
      rfl
    · show some (D.int (ys.length : Nat)) = _
      rw [e4]
  rw [ret_eq (d := .int ((k : Int) - (n : Int)))]
  · rfl
  · exact op_eq (len 4 ds k rfl c2 l2) (len 3 cs n rfl c1 l1) rfl
def rowsN (t : Nat) : Nat → List (List Nat)
  | 0 => [[]]
  | m + 1 => (rowsN t m).flatMap fun r => (List.range t).map fun a => r ++ [a]
def hitB (x : D) (r : List Nat) (h : Nat) : Bool := match hitsD x r with
  | some n => Nat.beq n h
  | none => false
def hitsB (x : D) : List (List Nat) → List Nat → Bool
  | [], [] => true
  | r :: rs, h :: hs => match hitB x r h with
    | true => hitsB x rs hs
    | false => false
  | _, _ => false
theorem hitB_eq {x : D} {r : List Nat} {h : Nat} (e : hitB x r h = true) : hitsD x r = some h := by
  unfold hitB at e
  cases c : hitsD x r with
  | none => rw [c] at e; cases e
  | some n => rw [c] at e; rw [Nat.eq_of_beq_eq_true (show Nat.beq n h = true from e)]
end Deep
set_option maxRecDepth 100000
set_option maxHeartbeats 4000000
namespace Deep
open PySem PySem.Spec PyProof.Rows L2
/-! ### tables of hits; leads of rows -/
structure Tk where
  S : Sh
  h3 : List (List Nat)
  h4 : List (List Nat)
  ex : List (List Nat × Nat)
def eqR : List Nat → List Nat → Bool
  | [], [] => true
  | a :: as, b :: bs => match Nat.beq a b with
    | true => eqR as bs
    | false => false
  | _, _ => false
theorem eqR_eq : ∀ {a b : List Nat}, eqR a b = true → a = b
  | [], b, h => by cases b <;> first | rfl | (simp [eqR] at h)
  | x :: xs, b, h => by
    cases b with
    | nil => simp [eqR] at h
    | cons y ys =>
      rw [eqR] at h
      cases e : Nat.beq x y with
      | false => rw [e] at h; cases h
      | true => rw [e] at h; rw [Nat.eq_of_beq_eq_true e, eqR_eq h]
def lookR : List (List Nat × Nat) → List Nat → Option Nat
  | [], _ => none
  | e :: es, r => match eqR e.1 r with
    | true => some e.2
    | false => lookR es r
theorem lookR_mem {r : List Nat} {n : Nat} : ∀ {es : List (List Nat × Nat)}, lookR es r = some n → ∃ e ∈ es, e.1 = r ∧ e.2 = n
  | e :: es, h => by
    rw [lookR] at h
    cases c : eqR e.1 r with
    | true => rw [c] at h; cases h; exact ⟨e, List.mem_cons_self, eqR_eq c, rfl⟩
    | false =>
      rw [c] at h
      obtain ⟨f, hf, q⟩ := lookR_mem (es := es) h
      exact ⟨f, List.mem_cons_of_mem _ hf, q⟩
namespace Tk
def tab (T : Tk) (m : Nat) : List (List Nat) := match m with
  | 3 => T.h3
  | _ => T.h4
def okM (T : Tk) (m : Nat) : Bool := match T.tab m with
  | [a, b, c] => hitsB T.S.d (rowsN 1 m) a && (hitsB T.S.d (rowsN 2 m) b && hitsB T.S.d (rowsN 3 m) c)
  | _ => false
def okE (T : Tk) : Bool := allB (fun e => hitB T.S.d e.1 e.2) T.ex && hitB T.S.d [] 0
structure Ok (T : Tk) : Prop where
  S : T.S.Ok
  rows : ∀ t m, 1 ≤ t → t ≤ 3 → (m = 3 ∨ m = 4) → ∃ hs, (T.tab m)[t - 1]? = some hs ∧ hitsB T.S.d (rowsN t m) hs = true
  ex : ∀ r n, lookR T.ex r = some n → hitsD T.S.d r = some n
  nil : hitsD T.S.d [] = some 0
theorem ok_of {T : Tk} (hS : T.S.Ok) (h3 : T.okM 3 = true) (h4 : T.okM 4 = true) (he : T.okE = true) : T.Ok := by
  have M : ∀ m, T.okM m = true → ∀ t, 1 ≤ t → t ≤ 3 → ∃ hs, (T.tab m)[t - 1]? = some hs ∧ hitsB T.S.d (rowsN t m) hs = true := fun m h t t1 t3 => by
    unfold okM at h
    split at h
    · rename_i a b c e
      rw [Bool.and_eq_true, Bool.and_eq_true] at h
      rw [e]
      match t, t1, t3 with
      | 1, _, _ => exact ⟨a, rfl, h.1⟩
      | 2, _, _ => exact ⟨b, rfl, h.2.1⟩
      | 3, _, _ => exact ⟨c, rfl, h.2.2⟩
    · cases h
  unfold okE at he
  rw [Bool.and_eq_true] at he
  refine ⟨hS, fun t m t1 t3 hm => ?_, fun r n h => ?_, hitB_eq he.2⟩
  · rcases hm with rfl | rfl
    · exact M 3 h3 t t1 t3
    · exact M 4 h4 t t1 t3
  · obtain ⟨e, he', e1, e2⟩ := lookR_mem h
    have := hitB_eq (allB_mem he.1 e he')
    rw [e1, e2] at this
    exact this
end Tk
def subN : List Nat → List Nat → List Int
  | k :: ks, h :: hs => ((k : Int) - (h : Int)) :: subN ks hs
  | _, _ => []
theorem lc_rows {x y : D} {σ0 : DSt} {fe : DSt → Option D} (hf : ∀ (r : List Nat) (z : Int), runD 6 pBy.1 [x, y, Cod.eW r] = some (.int z) → fe (σ0.set 9 (some (.im (Cod.eW r)))) = some (.int z)) :
    ∀ (rs : List (List Nat)) (hs ks : List Nat), hitsB x rs hs = true → hitsB y rs ks = true → lcGo σ0 (gNm 9) fYes fe (rs.map Cod.eW) = some ((subN ks hs).map D.int)
  | [], [], [], _, _ => rfl
  | [], _ :: _, _, h, _ => by rw [hitsB] at h <;> first | cases h | (intros; simp_all)
  | [], [], _ :: _, _, h => by rw [hitsB] at h <;> first | cases h | (intros; simp_all)
  | _ :: _, [], _, h, _ => by rw [hitsB] at h <;> first | cases h | (intros; simp_all)
  | _ :: _, _ :: _, [], _, h => by rw [hitsB] at h <;> first | cases h | (intros; simp_all)
  | r :: rs, h :: hs, k :: ks, h1, h2 => by
    rw [hitsB] at h1 h2
    cases e1 : hitB x r h with
    | false => rw [e1] at h1; cases h1
    | true =>
      cases e2 : hitB y r k with
      | false => rw [e2] at h2; cases h2
      | true =>
        rw [e1] at h1
        rw [e2] at h2
        rw [List.map_cons, lcGo]
        show (fe (σ0.set 9 (some (.im (Cod.eW r))))).bind (fun y => (lcGo σ0 (gNm 9) fYes fe (rs.map Cod.eW)).bind fun ys => some (y :: ys)) = _
        rw [hf r _ (by_run (hitB_eq e1) (hitB_eq e2)), Option.bind_some, lc_rows hf rs hs ks h1 h2]
        rfl
/-- rows, as the law makes them -/
theorem rows_ok {t m : Nat} (h1 : 1 ≤ t) (h3 : t ≤ 3) (hm : m = 0 ∨ m = 3 ∨ m = 4) : runD 7 pRows.1 [.int (t : Nat), .int (m : Nat)] = some (.lst ((rowsN t m).map Cod.eW)) := by
  match t, h1, h3 with
  | 1, _, _ =>
    rcases hm with rfl | rfl | rfl
    · exact eqO_eq (by decide +kernel)
    · exact eqO_eq (by decide +kernel)
    · exact eqO_eq (by decide +kernel)
  | 2, _, _ =>
    rcases hm with rfl | rfl | rfl
    · exact eqO_eq (by decide +kernel)
    · exact eqO_eq (by decide +kernel)
    · exact eqO_eq (by decide +kernel)
  | 3, _, _ =>
    rcases hm with rfl | rfl | rfl
    · exact eqO_eq (by decide +kernel)
    · exact eqO_eq (by decide +kernel)
    · exact eqO_eq (by decide +kernel)
theorem rows_len {t m : Nat} (h1 : 1 ≤ t) (h3 : t ≤ 3) (hm : m = 0 ∨ m = 3 ∨ m = 4) : (rowsN t m).length ≤ 1000 := by
  match t, h1, h3 with
  | 1, _, _ => rcases hm with rfl | rfl | rfl <;> decide +kernel
  | 2, _, _ => rcases hm with rfl | rfl | rfl <;> decide +kernel
  | 3, _, _ => rcases hm with rfl | rfl | rfl <;> decide +kernel
end Deep
set_option maxRecDepth 100000
set_option maxHeartbeats 0
namespace Deep
open PySem PySem.Spec PyProof.Rows L2
def tEldest1 : Tk where
  S := hEldest1
  h3 := [[2], [2, 1, 0, 1, 1, 0, 1, 2], [2, 1, 1, 0, 1, 0, 0, 0, 1, 1, 0, 0, 1, 2, 1, 0, 0, 1, 1, 0, 0, 0, 1, 0, 1, 1, 2]]
  h4 := [[3], [3, 2, 1, 2, 1, 0, 1, 2, 2, 1, 0, 1, 2, 1, 2, 3], [3, 2, 2, 1, 2, 1, 1, 1, 2, 1, 0, 0, 1, 2, 1, 0, 0, 1, 1, 0, 0, 0, 1, 0, 1, 1, 2, 2, 1, 1, 0, 1, 0, 0, 0, 1, 2, 1, 1, 2, 3, 2, 1, 1, 2, 1, 0, 0, 0, 1, 0, 1, 1, 2, 2, 1, 1, 0, 1, 0, 0, 0, 1, 1, 0, 0, 1, 2, 1, 0, 0, 1, 2, 1, 1, 1, 2, 1, 2, 2, 3]]
  ex := [([0, 1], 0), ([2, 0, 2], 0), ([0, 0, 1, 1], 2), ([0, 1, 0, 1], 0), ([0, 0, 1, 1, 0, 1], 2), ([0, 1, 0, 1, 0, 1], 0), ([2, 0, 2, 1, 2, 0, 2], 0), ([0, 0, 1, 1, 0, 1, 0, 1], 2), ([0, 1, 0, 1, 0, 1, 0, 1], 0), ([0, 0, 1, 1, 0, 1, 0, 1, 0, 1], 2), ([2, 0, 2, 1, 2, 0, 2, 1, 2, 0, 2], 0), ([2, 0, 2, 1, 2, 0, 2, 1, 2, 0, 2, 1, 2, 0, 2], 0)]
theorem tEldest1_ok : tEldest1.Ok := Tk.ok_of hEldest1_ok (by decide +kernel) (by decide +kernel) (by decide +kernel)
def tEldest2 : Tk where
  S := hEldest2
  h3 := [[2], [2, 1, 1, 1, 1, 1, 1, 2], [2, 1, 1, 1, 1, 0, 1, 0, 1, 1, 1, 0, 1, 2, 1, 0, 1, 1, 1, 0, 1, 0, 1, 1, 1, 1, 2]]
  h4 := [[3], [3, 2, 2, 2, 2, 2, 2, 2, 2, 2, 2, 2, 2, 2, 2, 3], [3, 2, 2, 2, 2, 1, 2, 1, 2, 2, 2, 1, 2, 2, 1, 0, 1, 1, 2, 1, 2, 0, 1, 1, 2, 1, 2, 2, 2, 1, 2, 2, 1, 1, 0, 1, 2, 2, 1, 2, 3, 2, 1, 2, 2, 1, 0, 1, 1, 2, 2, 1, 2, 2, 2, 1, 2, 1, 1, 0, 2, 1, 2, 1, 1, 0, 1, 2, 2, 1, 2, 2, 2, 1, 2, 1, 2, 2, 2, 2, 3]]
  ex := [([0, 1], 0), ([0, 0, 1], 1), ([0, 1, 0], 1), ([0, 1, 2], 0), ([0, 0, 2, 1], 1), ([0, 1, 0, 1], 2), ([0, 1, 2, 0, 1], 0), ([0, 1, 2, 1, 2], 2), ([0, 0, 1, 2, 0, 1], 1), ([0, 0, 2, 1, 2, 1], 3), ([0, 1, 0, 1, 0, 1], 4), ([0, 1, 2, 1, 2, 1, 2], 4), ([0, 0, 2, 1, 2, 1, 2, 1], 5), ([0, 1, 0, 1, 0, 1, 0, 1], 6), ([0, 1, 2, 0, 1, 2, 0, 1], 0), ([0, 0, 1, 2, 0, 1, 2, 0, 1], 1), ([0, 1, 0, 2, 1, 0, 2, 1, 0], 4), ([0, 1, 2, 1, 2, 1, 2, 1, 2], 6), ([0, 0, 2, 1, 2, 1, 2, 1, 2, 1], 7), ([0, 1, 0, 2, 0, 2, 1, 2, 1, 0, 1], 3), ([0, 1, 2, 0, 1, 2, 0, 1, 2, 0, 1], 0), ([0, 0, 1, 2, 0, 1, 2, 0, 1, 2, 0, 1], 1), ([0, 1, 0, 2, 1, 0, 2, 1, 0, 2, 1, 0, 2, 1, 0], 7), ([0, 1, 0, 2, 0, 2, 1, 2, 1, 0, 1, 0, 2, 0, 2, 1, 2, 1, 0, 1], 6), ([0, 1, 0, 2, 1, 0, 2, 1, 0, 2, 1, 0, 2, 1, 0, 2, 1, 0, 2, 1, 0], 10), ([0, 1, 0, 2, 0, 2, 1, 2, 1, 0, 1, 0, 2, 0, 2, 1, 2, 1, 0, 1, 0, 2, 0, 2, 1, 2, 1, 0, 1], 9)]
theorem tEldest2_ok : tEldest2.Ok := Tk.ok_of hEldest2_ok (by decide +kernel) (by decide +kernel) (by decide +kernel)
def tLately1 : Tk where
  S := hLately1
  h3 := [[2], [2, 1, 0, 1, 1, 0, 1, 2], [2, 1, 1, 0, 1, 0, 0, 0, 1, 1, 0, 0, 1, 2, 1, 0, 0, 1, 1, 0, 0, 0, 1, 0, 1, 1, 2]]
  h4 := [[3], [3, 2, 1, 2, 1, 0, 1, 2, 2, 1, 0, 1, 2, 1, 2, 3], [3, 2, 2, 1, 2, 1, 1, 1, 2, 1, 0, 0, 1, 2, 1, 0, 0, 1, 1, 0, 0, 0, 1, 0, 1, 1, 2, 2, 1, 1, 0, 1, 0, 0, 0, 1, 2, 1, 1, 2, 3, 2, 1, 1, 2, 1, 0, 0, 0, 1, 0, 1, 1, 2, 2, 1, 1, 0, 1, 0, 0, 0, 1, 1, 0, 0, 1, 2, 1, 0, 0, 1, 2, 1, 1, 1, 2, 1, 2, 2, 3]]
  ex := [([0, 1], 0), ([2, 0, 2], 0), ([0, 0, 1, 1], 2), ([0, 1, 0, 1], 0), ([0, 0, 1, 1, 0, 1], 2), ([0, 1, 0, 1, 0, 1], 0), ([2, 0, 2, 1, 2, 0, 2], 0), ([0, 0, 1, 1, 0, 1, 0, 1], 2), ([0, 1, 0, 1, 0, 1, 0, 1], 0), ([0, 0, 1, 1, 0, 1, 0, 1, 0, 1], 2), ([2, 0, 2, 1, 2, 0, 2, 1, 2, 0, 2], 0), ([2, 0, 2, 1, 2, 0, 2, 1, 2, 0, 2, 1, 2, 0, 2], 0)]
theorem tLately1_ok : tLately1.Ok := Tk.ok_of hLately1_ok (by decide +kernel) (by decide +kernel) (by decide +kernel)
def tLately2 : Tk where
  S := hLately2
  h3 := [[2], [2, 1, 1, 1, 1, 1, 1, 2], [2, 1, 1, 1, 1, 0, 1, 0, 1, 1, 1, 0, 1, 2, 1, 0, 1, 1, 1, 0, 1, 0, 1, 1, 1, 1, 2]]
  h4 := [[3], [3, 2, 2, 2, 2, 2, 2, 2, 2, 2, 2, 2, 2, 2, 2, 3], [3, 2, 2, 2, 2, 1, 2, 1, 2, 2, 2, 1, 2, 2, 1, 0, 1, 1, 2, 1, 2, 0, 1, 1, 2, 1, 2, 2, 2, 1, 2, 2, 1, 1, 0, 1, 2, 2, 1, 2, 3, 2, 1, 2, 2, 1, 0, 1, 1, 2, 2, 1, 2, 2, 2, 1, 2, 1, 1, 0, 2, 1, 2, 1, 1, 0, 1, 2, 2, 1, 2, 2, 2, 1, 2, 1, 2, 2, 2, 2, 3]]
  ex := [([0, 1], 0), ([0, 0, 1], 1), ([0, 1, 0], 1), ([0, 1, 2], 0), ([0, 0, 1, 2], 1), ([0, 1, 0, 1], 2), ([0, 1, 2, 0, 1], 0), ([0, 1, 2, 1, 2], 2), ([0, 0, 1, 2, 0, 1], 1), ([0, 0, 1, 2, 1, 2], 3), ([0, 1, 0, 1, 0, 1], 4), ([0, 1, 2, 1, 2, 1, 2], 4), ([0, 0, 1, 2, 1, 2, 1, 2], 5), ([0, 1, 0, 1, 0, 1, 0, 1], 6), ([0, 1, 2, 0, 1, 2, 0, 1], 0), ([0, 0, 1, 2, 0, 1, 2, 0, 1], 1), ([0, 1, 0, 2, 1, 0, 2, 1, 0], 1), ([0, 1, 2, 1, 2, 1, 2, 1, 2], 6), ([0, 0, 1, 2, 1, 2, 1, 2, 1, 2], 7), ([0, 1, 0, 2, 0, 2, 1, 2, 1, 0, 1], 6), ([0, 1, 2, 0, 1, 2, 0, 1, 2, 0, 1], 0), ([0, 0, 1, 2, 0, 1, 2, 0, 1, 2, 0, 1], 1), ([0, 1, 0, 2, 1, 0, 2, 1, 0, 2, 1, 0, 2, 1, 0], 1), ([0, 1, 0, 2, 0, 2, 1, 2, 1, 0, 1, 0, 2, 0, 2, 1, 2, 1, 0, 1], 12), ([0, 1, 0, 2, 1, 0, 2, 1, 0, 2, 1, 0, 2, 1, 0, 2, 1, 0, 2, 1, 0], 1), ([0, 1, 0, 2, 0, 2, 1, 2, 1, 0, 1, 0, 2, 0, 2, 1, 2, 1, 0, 1, 0, 2, 0, 2, 1, 2, 1, 0, 1], 18)]
theorem tLately2_ok : tLately2.Ok := Tk.ok_of hLately2_ok (by decide +kernel) (by decide +kernel) (by decide +kernel)
def tNewest1 : Tk where
  S := hNewest1
  h3 := [[2], [2, 1, 0, 1, 1, 0, 1, 2], [2, 1, 1, 0, 1, 0, 0, 0, 1, 1, 0, 0, 1, 2, 1, 0, 0, 1, 1, 0, 0, 0, 1, 0, 1, 1, 2]]
  h4 := [[3], [3, 2, 1, 2, 1, 0, 1, 2, 2, 1, 0, 1, 2, 1, 2, 3], [3, 2, 2, 1, 2, 1, 1, 1, 2, 1, 0, 0, 1, 2, 1, 0, 0, 1, 1, 0, 0, 0, 1, 0, 1, 1, 2, 2, 1, 1, 0, 1, 0, 0, 0, 1, 2, 1, 1, 2, 3, 2, 1, 1, 2, 1, 0, 0, 0, 1, 0, 1, 1, 2, 2, 1, 1, 0, 1, 0, 0, 0, 1, 1, 0, 0, 1, 2, 1, 0, 0, 1, 2, 1, 1, 1, 2, 1, 2, 2, 3]]
  ex := [([0, 1], 0), ([2, 0, 2], 0), ([0, 0, 1, 1], 2), ([0, 1, 0, 1], 0), ([0, 0, 1, 1, 0, 1], 2), ([0, 1, 0, 1, 0, 1], 0), ([2, 0, 2, 1, 2, 0, 2], 0), ([0, 0, 1, 1, 0, 1, 0, 1], 2), ([0, 1, 0, 1, 0, 1, 0, 1], 0), ([0, 0, 1, 1, 0, 1, 0, 1, 0, 1], 2), ([2, 0, 2, 1, 2, 0, 2, 1, 2, 0, 2], 0), ([2, 0, 2, 1, 2, 0, 2, 1, 2, 0, 2, 1, 2, 0, 2], 0)]
theorem tNewest1_ok : tNewest1.Ok := Tk.ok_of hNewest1_ok (by decide +kernel) (by decide +kernel) (by decide +kernel)
def tNewest2 : Tk where
  S := hNewest2
  h3 := [[2], [2, 1, 1, 1, 1, 1, 1, 2], [2, 1, 1, 1, 1, 0, 1, 0, 1, 1, 1, 0, 1, 2, 1, 0, 1, 1, 1, 0, 1, 0, 1, 1, 1, 1, 2]]
  h4 := [[3], [3, 2, 2, 2, 2, 2, 2, 2, 2, 2, 2, 2, 2, 2, 2, 3], [3, 2, 2, 2, 2, 1, 2, 1, 2, 2, 2, 1, 2, 2, 1, 1, 0, 1, 2, 1, 2, 1, 1, 0, 2, 1, 2, 2, 2, 1, 2, 2, 1, 0, 1, 1, 2, 2, 1, 2, 3, 2, 1, 2, 2, 1, 1, 0, 1, 2, 2, 1, 2, 2, 2, 1, 2, 0, 1, 1, 2, 1, 2, 1, 0, 1, 1, 2, 2, 1, 2, 2, 2, 1, 2, 1, 2, 2, 2, 2, 3]]
  ex := [([0, 1], 0), ([0, 1, 2], 0), ([0, 1, 0, 1], 2), ([0, 1, 2, 0, 1], 1), ([0, 1, 2, 1, 2], 0), ([0, 1, 2, 2, 1], 1), ([0, 1, 0, 1, 0, 1], 4), ([0, 1, 2, 1, 2, 1, 2], 0), ([0, 1, 2, 2, 1, 2, 1], 1), ([0, 1, 0, 1, 0, 1, 0, 1], 6), ([0, 1, 2, 0, 1, 2, 0, 1], 2), ([0, 1, 2, 1, 2, 1, 2, 1, 2], 0), ([0, 1, 2, 2, 1, 2, 1, 2, 1], 1), ([0, 1, 2, 0, 1, 2, 0, 1, 2, 0, 1], 3), ([0, 1, 2, 2, 1, 2, 1, 2, 1, 2, 1], 1)]
theorem tNewest2_ok : tNewest2.Ok := Tk.ok_of hNewest2_ok (by decide +kernel) (by decide +kernel) (by decide +kernel)
def tSeldom1 : Tk where
  S := hSeldom1
  h3 := [[2], [2, 1, 0, 1, 1, 0, 1, 2], [2, 1, 1, 0, 1, 0, 0, 0, 1, 1, 0, 0, 1, 2, 1, 0, 0, 1, 1, 0, 0, 0, 1, 0, 1, 1, 2]]
  h4 := [[3], [3, 2, 1, 2, 1, 0, 1, 2, 2, 1, 0, 1, 2, 1, 2, 3], [3, 2, 2, 1, 2, 1, 1, 1, 2, 1, 0, 0, 1, 2, 1, 0, 0, 1, 1, 0, 0, 0, 1, 0, 1, 1, 2, 2, 1, 1, 0, 1, 0, 0, 0, 1, 2, 1, 1, 2, 3, 2, 1, 1, 2, 1, 0, 0, 0, 1, 0, 1, 1, 2, 2, 1, 1, 0, 1, 0, 0, 0, 1, 1, 0, 0, 1, 2, 1, 0, 0, 1, 2, 1, 1, 1, 2, 1, 2, 2, 3]]
  ex := [([0, 1], 0), ([2, 0, 2], 0), ([0, 1, 0, 1], 0), ([0, 1, 0, 1, 0, 1], 0), ([2, 0, 2, 1, 2, 0, 2], 0), ([0, 1, 0, 1, 0, 1, 0, 1], 0), ([0, 1, 0, 1, 0, 1, 0, 1, 0, 1], 0), ([2, 0, 2, 1, 2, 0, 2, 1, 2, 0, 2], 0), ([2, 0, 2, 1, 2, 0, 2, 1, 2, 0, 2, 1, 2, 0, 2], 0)]
theorem tSeldom1_ok : tSeldom1.Ok := Tk.ok_of hSeldom1_ok (by decide +kernel) (by decide +kernel) (by decide +kernel)
def tSeldom2 : Tk where
  S := hSeldom2
  h3 := [[2], [2, 1, 1, 1, 1, 1, 1, 2], [2, 1, 1, 1, 1, 0, 1, 0, 1, 1, 1, 0, 1, 2, 1, 0, 1, 1, 1, 0, 1, 0, 1, 1, 1, 1, 2]]
  h4 := [[3], [3, 2, 2, 2, 2, 2, 2, 2, 2, 2, 2, 2, 2, 2, 2, 3], [3, 2, 2, 2, 2, 1, 2, 1, 2, 2, 2, 1, 2, 2, 1, 0, 1, 1, 2, 1, 2, 0, 1, 1, 2, 1, 2, 2, 2, 1, 2, 2, 1, 1, 0, 1, 2, 2, 1, 2, 3, 2, 1, 2, 2, 1, 0, 1, 1, 2, 2, 1, 2, 2, 2, 1, 2, 1, 1, 0, 2, 1, 2, 1, 1, 0, 1, 2, 2, 1, 2, 2, 2, 1, 2, 1, 2, 2, 2, 2, 3]]
  ex := [([0, 1], 0), ([0, 0, 1], 1), ([2, 0, 2], 1), ([0, 0, 1, 1], 2), ([0, 0, 1, 2], 1), ([0, 0, 2, 1], 1), ([0, 1, 0, 1], 2), ([0, 1, 2, 0, 1], 0), ([0, 1, 2, 2, 1], 2), ([0, 0, 1, 1, 0, 1], 4), ([0, 0, 1, 2, 0, 1], 2), ([0, 0, 1, 2, 1, 2], 1), ([0, 0, 2, 1, 2, 1], 1), ([0, 1, 0, 1, 0, 1], 4), ([0, 1, 2, 2, 1, 2, 1], 4), ([2, 0, 2, 1, 2, 0, 2], 3), ([0, 0, 1, 1, 0, 1, 0, 1], 6), ([0, 0, 1, 2, 1, 2, 1, 2], 1), ([0, 0, 2, 1, 2, 1, 2, 1], 1), ([0, 1, 0, 1, 0, 1, 0, 1], 6), ([0, 1, 2, 0, 1, 2, 0, 1], 0), ([0, 0, 1, 2, 0, 1, 2, 0, 1], 3), ([0, 1, 2, 2, 1, 2, 1, 2, 1], 6), ([0, 0, 1, 1, 0, 1, 0, 1, 0, 1], 8), ([0, 0, 1, 2, 1, 2, 1, 2, 1, 2], 1), ([0, 0, 2, 1, 2, 1, 2, 1, 2, 1], 1), ([0, 1, 0, 1, 0, 1, 0, 1, 0, 1], 8), ([0, 1, 2, 0, 1, 2, 0, 1, 2, 0, 1], 0), ([0, 1, 2, 2, 1, 2, 1, 2, 1, 2, 1], 8), ([2, 0, 2, 1, 2, 0, 2, 1, 2, 0, 2], 5), ([0, 0, 1, 2, 0, 1, 2, 0, 1, 2, 0, 1], 4), ([2, 0, 2, 1, 2, 0, 2, 1, 2, 0, 2, 1, 2, 0, 2], 7)]
theorem tSeldom2_ok : tSeldom2.Ok := Tk.ok_of hSeldom2_ok (by decide +kernel) (by decide +kernel) (by decide +kernel)
def tBest1 : Tk where
  S := hBest1
  h3 := [[2], [2, 1, 0, 1, 1, 0, 1, 2], [2, 1, 1, 0, 1, 0, 0, 0, 1, 1, 0, 0, 1, 2, 1, 0, 0, 1, 1, 0, 0, 0, 1, 0, 1, 1, 2]]
  h4 := [[3], [3, 2, 1, 2, 1, 0, 1, 2, 2, 1, 0, 1, 2, 1, 2, 3], [3, 2, 2, 1, 2, 1, 1, 1, 2, 1, 0, 0, 1, 2, 1, 0, 0, 1, 1, 0, 0, 0, 1, 0, 1, 1, 2, 2, 1, 1, 0, 1, 0, 0, 0, 1, 2, 1, 1, 2, 3, 2, 1, 1, 2, 1, 0, 0, 0, 1, 0, 1, 1, 2, 2, 1, 1, 0, 1, 0, 0, 0, 1, 1, 0, 0, 1, 2, 1, 0, 0, 1, 2, 1, 1, 1, 2, 1, 2, 2, 3]]
  ex := []
theorem tBest1_ok : tBest1.Ok := Tk.ok_of hBest1_ok (by decide +kernel) (by decide +kernel) (by decide +kernel)
def tBest2 : Tk where
  S := hBest2
  h3 := [[2], [2, 1, 1, 1, 1, 1, 1, 2], [2, 1, 1, 1, 1, 0, 1, 0, 1, 1, 1, 0, 1, 2, 1, 0, 1, 1, 1, 0, 1, 0, 1, 1, 1, 1, 2]]
  h4 := [[3], [3, 2, 2, 2, 2, 2, 2, 2, 2, 2, 2, 2, 2, 2, 2, 3], [3, 2, 2, 2, 2, 1, 2, 1, 2, 2, 2, 1, 2, 2, 1, 1, 1, 1, 2, 1, 2, 1, 1, 1, 2, 1, 2, 2, 2, 1, 2, 2, 1, 1, 1, 1, 2, 2, 1, 2, 3, 2, 1, 2, 2, 1, 1, 1, 1, 2, 2, 1, 2, 2, 2, 1, 2, 1, 1, 1, 2, 1, 2, 1, 1, 1, 1, 2, 2, 1, 2, 2, 2, 1, 2, 1, 2, 2, 2, 2, 3]]
  ex := []
theorem tBest2_ok : tBest2.Ok := Tk.ok_of hBest2_ok (by decide +kernel) (by decide +kernel) (by decide +kernel)
end Deep
set_option maxRecDepth 100000
set_option maxHeartbeats 4000000
namespace Deep
open PySem PySem.Spec PyProof.Rows L2
/-! ### a turn of the law, plainly -/
theorem lay_ints : ∀ is : List Int, PyData.canLayAll0 (is.map PyData.int) = true
  | [] => by rw [List.map_nil, PyData.canLayAll0]
  | i :: is => by rw [List.map_cons, PyData.canLayAll0, lay_ints is, PyData.canLay0]; rfl
theorem eqv_ints : ∀ as bs : List Int, PyData.eqvAll (as.map PyData.int) (bs.map PyData.int) = decide (as = bs)
  | [], [] => by simp [PyData.eqvAll]
  | [], _ :: _ => by simp [PyData.eqvAll]
  | _ :: _, [] => by simp [PyData.eqvAll]
  | a :: as, b :: bs => by
    rw [List.map_cons, List.map_cons, PyData.eqvAll, eqv_ints as bs, PyData.eqv]
    by_cases h : a = b
    · subst h; simp
    · simp [h]
theorem eq_tupI (k : Bool → Bool) (as bs : List Int) : gEq k (.tup (as.map D.int)) (.tup (bs.map D.int)) = some (.bl (k (decide (as = bs)))) := by
  have hs : ∀ is : List Int, SeqAt.shaped (.tuple (is.map PyData.int)) = true := fun is => by
    unfold SeqAt.shaped
    rw [PyData.canLay0, lay_ints, PyData.depth, dep_ints]
    rfl
  unfold gEq
  rw [D.py, pys_ints, D.py, pys_ints]
  show (if SeqAt.shaped (.tuple (as.map PyData.int)) = true ∧ SeqAt.shaped (.tuple (bs.map PyData.int)) = true then some (D.bl (k (PyData.eqv (.tuple (as.map PyData.int)) (.tuple (bs.map PyData.int))))) else none) = _
  rw [if_pos ⟨hs as, hs bs⟩, PyData.eqv, eqv_ints]
theorem eq_lstI (k : Bool → Bool) (as bs : List Int) : gEq k (.lst (as.map D.int)) (.lst (bs.map D.int)) = some (.bl (k (decide (as = bs)))) := by
  have hs : ∀ is : List Int, SeqAt.shaped (.list (is.map PyData.int)) = true := fun is => by
    unfold SeqAt.shaped
    rw [PyData.canLay0, lay_ints, PyData.depth, dep_ints]
    rfl
  unfold gEq
  rw [D.py, pys_ints, D.py, pys_ints]
  show (if SeqAt.shaped (.list (as.map PyData.int)) = true ∧ SeqAt.shaped (.list (bs.map PyData.int)) = true then some (D.bl (k (PyData.eqv (.list (as.map PyData.int)) (.list (bs.map PyData.int))))) else none) = _
  rw [if_pos ⟨hs as, hs bs⟩, PyData.eqv, eqv_ints]
theorem eq_bl (k : Bool → Bool) (a b : Bool) : gEq k (.bl a) (.bl b) = some (.bl (k (a == b))) := by
  have hs : ∀ a : Bool, SeqAt.shaped (.bool a) = true := fun a => by
    unfold SeqAt.shaped
    rw [PyData.canLay0, PyData.depth]
    rfl
  unfold gEq
  rw [D.py, D.py]
  show (if SeqAt.shaped (.bool a) = true ∧ SeqAt.shaped (.bool b) = true then some (D.bl (k (PyData.eqv (.bool a) (.bool b)))) else none) = _
  rw [if_pos ⟨hs a, hs b⟩, PyData.eqv]
theorem or_f {f g : DSt → Option Bool} {σ : DSt} {b : Option Bool} (h1 : f σ = some false) (h2 : g σ = b) : fOr f g σ = b := by
  unfold fOr
  rw [h1, Option.bind_some, if_neg Bool.false_ne_true, h2]
theorem not_eq {f : DSt → Option Bool} {σ : DSt} {b : Bool} (h : f σ = some b) : fNot f σ = some (!b) := by
  unfold fNot
  rw [h]
  rfl
theorem isi_eq {T n : String} {f : DSt → Option D} {σ : DSt} {d : D} {b : Bool} (hf : f σ = some d) (hn : d.tyName = some n) (hk : kitB n T = some b) : fIsi T f σ = some (.bl b) := by
  unfold fIsi
  rw [hf, Option.bind_some, hn, Option.bind_some, hk]
  rfl
theorem kit_ii : kitB "int" "int" = some true := by decide +kernel
theorem kit_ib : kitB "int" "bool" = some false := by decide +kernel
theorem kit_tt : kitB "tuple" "tuple" = some true := by decide +kernel
abbrev stA (a : Addr) (x y t f r l : D) : DSt := [none, some (.im (.adr a)), none, some (.im x), some (.im y), some (.im t), some (.im f), some (.im r), some (.im l), none, none, none, none, none, none, none, none]
theorem turnA_run {a : Addr} {x y t f r l : D} (h1 : runD 7 pLead.1 [x, y, t] = some f) (h2 : runD 10 pRow.1 [x, y, t] = some r) (h3 : runD 6 pLoop.1 [x, y, t] = some l) : pTurnA.1 (tst a x y t) = some (.nx (stA a x y t f r l)) := by
  have pe : pTurnA.1 = sPar [6, 7, 8] (fCons (fIm (fCall (runD 7 pLead.1) (fCons (fVar 3) (fCons (fVar 4) (fCons (fVar 5) fNil)))))
      (fCons (fIm (fCall (runD 10 pRow.1) (fCons (fVar 3) (fCons (fVar 4) (fCons (fVar 5) fNil))))) (fCons (fIm (fCall (runD 6 pLoop.1) (fCons (fVar 3) (fCons (fVar 4) (fCons (fVar 5) fNil))))) fNil))) := rfl
  rw [pe]
  have c1 : fCall (runD 7 pLead.1) (fCons (fVar 3) (fCons (fVar 4) (fCons (fVar 5) fNil))) (tst a x y t) = some f := call3 rfl rfl rfl h1
  have c2 : fCall (runD 10 pRow.1) (fCons (fVar 3) (fCons (fVar 4) (fCons (fVar 5) fNil))) (tst a x y t) = some r := call3 rfl rfl rfl h2
  have c3 : fCall (runD 6 pLoop.1) (fCons (fVar 3) (fCons (fVar 4) (fCons (fVar 5) fNil))) (tst a x y t) = some l := call3 rfl rfl rfl h3
  simp only [sPar, fCons, fIm, c1, c2, c3, Option.map_some, Option.bind_some, fNil]
  rfl
theorem turnC_run {a : Addr} {x y t f r l : D} (h1 : f.isNon = r.isNon) (h2 : f.isNon = !l.isNon) : pTurnC.1 (stA a x y t f r l) = some (.nx (stA a x y t f r l)) := by
  have pe : pTurnC.1 = sIf (fOr (fBl (fOp (gEq fun b => !b) (fOp (gIsN fun b => b) (fVarR 6) (fC D.non)) (fOp (gIsN fun b => b) (fVarR 7) (fC D.non)))) (fBl (fOp (gEq fun b => b) (fOp (gIsN fun b => b) (fVarR 6) (fC D.non)) (fOp (gIsN fun b => b) (fVarR 8) (fC D.non)))))
      (sRet (fC (D.bl false))) sNil := rfl
  rw [pe, if_f]
  · rfl
  · refine or_f (bl_eq (op_eq (x := .bl f.isNon) (y := .bl r.isNon) rfl rfl ?_)) (bl_eq (op_eq (x := .bl f.isNon) (y := .bl l.isNon) rfl rfl ?_))
    · rw [eq_bl, h1]
      cases r.isNon <;> rfl
    · rw [eq_bl, h2]
      cases l.isNon <;> rfl
abbrev fBy3 (f : DSt → Option D) : DSt → Option D := fCall (runD 6 pBy.1) (fCons (fVar 3) (fCons (fVar 4) (fCons f fNil)))
abbrev bZ : DSt → Option Out := (sThen
        (sIf
          (fOr (fNot (fBl (fIsi "int" (fVarR 6))))
            (fOr (fBl (fIsi "bool" (fVarR 6)))
              (fOr
                (fBl
                  (fOp (gI fun i j => D.bl (decide (j < i)))
                    (fCall (gBest fun y a => PySem.W.dataLt a y) (fCons (fVarR 10) fNil)) (fVarR 6)))
                (fBl (fOp (gI fun i j => D.bl (decide (i < j))) (fVarR 6) (fC (D.int 0)))))))
          (sRet (fC (D.bl false))) sNil)
        (sThen
          (sIf
            (fOr (fNot (fBl (fIsi "tuple" (fVarR 7))))
              (fBl (fOp (gEq fun b => !b) (fBy3 (fVar 7)) (fVarR 6))))
            (sRet (fC (D.bl false))) sNil)
          (sThen
            (sFor (fRng1 (fCall gMin2 (fCons (fCall gLen (fCons (fVarR 7) fNil)) (fCons (fC (D.int 4)) fNil)))) (gNm 11)
              (sIf
                (fBl
                  (fOp (gI fun i j => D.bl (decide (j ≤ i)))
                    (fCall (gBest fun y a => PySem.W.dataLt a y)
                      (fCons
                        (fFrz
                          (fLc
                            (fSeq (fCall (runD 7 pRows.1) (fCons (fVar 5) (fCons (fVar 11) fNil))) D.asLst)
                            (gNm 9) fYes
                            (fBy3 (fVar 9))
                            [9]))
                        fNil))
                    (fVarR 6)))
                (sRet (fC (D.bl false))) sNil))
            (sIf (fBl (fOp (gI fun i j => D.bl (decide (i < j))) (fCall gLen (fCons (fVarR 7) fNil)) (fC (D.int 6))))
              (sFor
                (fSeq
                  (fCall (runD 7 pRows.1) (fCons (fVar 5) (fCons (fCall gLen (fCons (fVarR 7) fNil)) fNil)))
                  D.asLst)
                (gNm 9)
                (sIf
                  (fAnd (fBl (fOp gLtT (fVarR 9) (fVarR 7)))
                    (fBl (fOp (gEq fun b => b) (fBy3 (fVar 9)) (fVarR 6))))
                  (sRet (fC (D.bl false))) sNil))
              sNil))))
abbrev bLe : DSt → Option Out := (sThen
              (sSetN 14
                (fLc (fRng1 (fC (D.int 4))) (gNm 16) fYes
                  (fBy3 (fOp gCatT (fVarR 12) (fOp gMulT (fVarR 13) (fVarR 16))))
                  [16]))
              (sThen
                (sSetN 15
                  (fLc (fRng1 (fC (D.int 3))) (gNm 16) fYes
                    (fOp (gI fun i j => D.int (i - j))
                      (fOp gIx (fVarR 14) (fOp (gI fun i j => D.int (i + j)) (fVarR 16) (fC (D.int 1))))
                      (fOp gIx (fVarR 14) (fVar 16)))
                    [16]))
                (sIf
                  (fOr
                    (fBl (fOp (gI fun i j => D.bl (decide (i < j))) (fOp gIx (fVarR 15) (fC (D.int 0))) (fC (D.int 1))))
                    (fBl
                      (fOp (gEq fun b => !b) (fVarR 15)
                        (fFrz (fRep (fLst (fCons (fOp gIx (fVarR 15) (fC (D.int 0))) fNil)) (fC (D.int 3)))))))
                  (sRet (fC (D.bl false))) sNil)))
abbrev bL : DSt → Option Out := (sThen (sAsg (fVar 8) (gTp (gsCons (gNm 12) (gsCons (gNm 13) gsNil))))
        (sThen
          (sIf
            (fOr (fBl (fOp (gEq fun b => b) (fVarR 13) (fTup fNil)))
              (fOr
                (fBl
                  (fOp (gI fun i j => D.bl (decide (j ≤ i)))
                    (fCall (gBest fun y a => PySem.W.dataLt a y) (fCons (fOp gCatT (fVarR 12) (fVarR 13)) fNil)) (fVarR 5)))
                (fBl
                  (fOp (gI fun i j => D.bl (decide (i < j)))
                    (fCall (gBest fun y a => PySem.W.dataLt y a) (fCons (fOp gCatT (fVarR 12) (fVarR 13)) fNil)) (fC (D.int 0))))))
            (sRet (fC (D.bl false))) sNil)
          (sIf
            (fAnd (fBl (fOp (gEq fun b => !b) (fOp gIx (fVarR 3) (fC (D.int 0))) (fC (D.str (Str.ofString "best")))))
              (fBl (fOp (gEq fun b => !b) (fOp gIx (fVarR 4) (fC (D.int 0))) (fC (D.str (Str.ofString "best"))))))
            bLe
            sNil)))
theorem turnB_eq : pTurnB.1 = sIf (fBl (fOp (gIsN fun b => !b) (fVarR 6) (fC D.non))) bZ bL := rfl
theorem zero_run {a : Addr} {x y : D} {t : Nat} {z : Int} {zs : List Int} (hz : hiI z zs ≤ 0) (hb : runD 6 pBy.1 [x, y, .tup []] = some (.int 0)) (hr : runD 7 pRows.1 [.int (t : Nat), .int 0] = some (.lst [.tup []])) :
    pTurnB.1 ((stA a x y (.int (t : Nat)) (.int 0) (.tup []) .non).set 10 (some (.mu (.lst ((z :: zs).map D.int))))) =
      some (.nx [none, some (.im (.adr a)), none, some (.im x), some (.im y), some (.im (.int (t : Nat))), some (.im (.int 0)), some (.im (.tup [])), some (.im .non), some (.im (.tup [])), some (.mu (.lst ((z :: zs).map D.int))), none, none, none, none, none, none]) := by
  show pTurnB.1 [none, some (.im (.adr a)), none, some (.im x), some (.im y), some (.im (.int (t : Nat))), some (.im (.int 0)), some (.im (.tup [])), some (.im .non), none, some (.mu (.lst ((z :: zs).map D.int))), none, none, none, none, none, none] = _
  rw [turnB_eq, if_t rfl]
  unfold bZ
  rw [then_nx (if_f (or_f (not_eq (bl_eq (isi_eq rfl rfl kit_ii))) (or_f (bl_eq (isi_eq rfl rfl kit_ib)) (or_f (bl_eq (op_eq (call1 (a := .lst ((z :: zs).map D.int)) rfl (gMax_ints z zs _ rfl)) rfl (by
    show some (D.bl (decide ((0 : Int) < hiI z zs))) = some (D.bl false)
    rw [decide_eq_false (by omega)]))) rfl))))]
  show sThen _ _ [none, some (.im (.adr a)), none, some (.im x), some (.im y), some (.im (.int (t : Nat))), some (.im (.int 0)), some (.im (.tup [])), some (.im .non), none, some (.mu (.lst ((z :: zs).map D.int))), none, none, none, none, none, none] = _
  rw [then_nx (if_f (or_f (not_eq (bl_eq (isi_eq rfl rfl kit_tt))) (bl_eq (op_eq (call3 rfl rfl rfl hb) rfl (eq_int _ _ _)))))]
  show sThen _ _ [none, some (.im (.adr a)), none, some (.im x), some (.im y), some (.im (.int (t : Nat))), some (.im (.int 0)), some (.im (.tup [])), some (.im .non), none, some (.mu (.lst ((z :: zs).map D.int))), none, none, none, none, none, none] = _
  rw [then_nx (for_eq (ds := []) rfl)]
  show sIf _ _ _ [none, some (.im (.adr a)), none, some (.im x), some (.im y), some (.im (.int (t : Nat))), some (.im (.int 0)), some (.im (.tup [])), some (.im .non), none, some (.mu (.lst ((z :: zs).map D.int))), none, none, none, none, none, none] = _
  rw [if_t rfl, for_eq (ds := [.tup []]) (by
    unfold fSeq
    rw [call2 (a := .int (t : Nat)) (b := .int 0) rfl rfl hr]
    rfl)]
  rfl
end Deep
set_option maxRecDepth 100000
set_option maxHeartbeats 4000000
namespace Deep
open PySem PySem.Spec PyProof.Rows L2
/-! ### the turn where a lead grows -/
def repN (k : Nat) (q : List Nat) : List Nat := (List.replicate k q).flatten
def iW (r : List Nat) : List Int := r.map fun i : Nat => ((i : Nat) : Int)
theorem eW_i (r : List Nat) : Cod.eW r = .tup ((iW r).map D.int) := by
  unfold Cod.eW iW
  rw [List.map_map]
  rfl
theorem eW_rep (k : Nat) (q : List Nat) : (List.replicate k (q.map fun i => D.int (i : Nat))).flatten = (repN k q).map fun i => D.int (i : Nat) := by
  unfold repN
  rw [List.map_flatten, List.map_replicate]
theorem rep_len (k : Nat) (q : List Nat) : (repN k q).length = k * q.length := by
  induction k with
  | zero => simp [repN]
  | succ k ih =>
    have : repN (k + 1) q = q ++ repN k q := rfl
    rw [this, List.length_append, ih, Nat.succ_mul]
    omega
theorem mul_eq {q : List Nat} {k : Nat} (hk : k ≤ 3) (h0 : 0 < q.length) (h1 : q.length ≤ 100) : gMulT (Cod.eW q) (.int (k : Nat)) = some (Cod.eW (repN k q)) := by
  show (if (0 ≤ (k : Int) ∧ (k : Int) ≤ 1000) ∧ 0 < (q.map fun i => D.int (i : Nat)).length ∧ (q.map fun i => D.int (i : Nat)).length ≤ 1000 then some (D.tup (List.replicate (k : Int).toNat (q.map fun i => D.int (i : Nat))).flatten) else none) = _
  rw [if_pos ⟨⟨by omega, by omega⟩, by rw [List.length_map]; exact h0, by rw [List.length_map]; omega⟩, Int.toNat_natCast, eW_rep]
  rfl
theorem cat_eq {r s : List Nat} (h : r.length + s.length ≤ 1000) : gCatT (Cod.eW r) (Cod.eW s) = some (Cod.eW (r ++ s)) := by
  show (if (r.map fun i => D.int (i : Nat)).length + (s.map fun i => D.int (i : Nat)).length ≤ 1000 then some (D.tup ((r.map fun i => D.int (i : Nat)) ++ s.map fun i => D.int (i : Nat))) else none) = _
  rw [if_pos (by rw [List.length_map, List.length_map]; exact h)]
  unfold Cod.eW
  rw [List.map_append]
def nb (r : Str) : Bool := eqO (gEq (fun b => !b) (.str r) (.str (Str.ofString "best"))) (.bl true)
def ib (r : Str) : Bool := eqO (gEq (fun b => !b) (.str r) (.str (Str.ofString "best"))) (.bl false)
section
variable {a : Addr} {r1 r2 : Str} {m1 m2 : Int} {t : Nat} {h q : List Nat} {xs : List D}
abbrev stL (a : Addr) (r1 r2 : Str) (m1 m2 : Int) (t : Nat) (h q : List Nat) (xs : List D) (x14 x15 : Option DV) : DSt :=
  [none, some (.im (.adr a)), none, some (.im (kD r1 m1)), some (.im (kD r2 m2)), some (.im (.int (t : Nat))), some (.im .non), some (.im .non), some (.im (.tup [Cod.eW h, Cod.eW q])), none, some (.mu (.lst xs)), none, some (.im (Cod.eW h)), some (.im (Cod.eW q)), x14, x15, none]
theorem leads_run {l0 l1 l2 l3 d : Int} (h0 : 0 < q.length) (h1 : q.length ≤ 100) (h2 : h.length ≤ 100) (hd : 1 ≤ d) (e1 : l1 - l0 = d) (e2 : l2 - l1 = d) (e3 : l3 - l2 = d)
    (b0 : runD 6 pBy.1 [kD r1 m1, kD r2 m2, Cod.eW (h ++ repN 0 q)] = some (.int l0)) (b1 : runD 6 pBy.1 [kD r1 m1, kD r2 m2, Cod.eW (h ++ repN 1 q)] = some (.int l1))
    (b2 : runD 6 pBy.1 [kD r1 m1, kD r2 m2, Cod.eW (h ++ repN 2 q)] = some (.int l2)) (b3 : runD 6 pBy.1 [kD r1 m1, kD r2 m2, Cod.eW (h ++ repN 3 q)] = some (.int l3)) :
    bLe (stL a r1 r2 m1 m2 t h q xs none none) = some (.nx (stL a r1 r2 m1 m2 t h q xs (some (.mu (.lst ([l0, l1, l2, l3].map D.int)))) (some (.mu (.lst ([d, d, d].map D.int)))))) := by
  have g1 : ∀ (k : Nat) (l : Int), k ≤ 3 → runD 6 pBy.1 [kD r1 m1, kD r2 m2, Cod.eW (h ++ repN k q)] = some (.int l) → (fBy3 (fOp gCatT (fVarR 12) (fOp gMulT (fVarR 13) (fVarR 16)))) ((wipeD (stL a r1 r2 m1 m2 t h q xs none none) [16]).set 16 (some (.im (.int (k : Nat))))) = some (.int l) := fun k l hk hb =>
    call3 rfl rfl (op_eq rfl (op_eq rfl rfl (mul_eq hk h0 h1)) (cat_eq (by rw [rep_len]; have : k * q.length ≤ 3 * 100 := Nat.mul_le_mul hk h1; omega))) hb
  have c1 := lc_filt (σ0 := wipeD (stL a r1 r2 m1 m2 t h q xs none none) [16]) (i := 16) (ft := fYes) (fe := fBy3 (fOp gCatT (fVarR 12) (fOp gMulT (fVarR 13) (fVarR 16)))) (enc := fun k : Nat => D.int (k : Nat)) (dec := D.int) (p := fun _ => some true)
    (f := fun k => match k with | 0 => some l0 | 1 => some l1 | 2 => some l2 | 3 => some l3 | _ => none) (fun x b h => by cases h; rfl) (fun k l hl => by
      match k, hl with
      | 0, hl => cases hl; exact g1 0 l0 (by decide) b0
      | 1, hl => cases hl; exact g1 1 l1 (by decide) b1
      | 2, hl => cases hl; exact g1 2 l2 (by decide) b2
      | 3, hl => cases hl; exact g1 3 l3 (by decide) b3) [0, 1, 2, 3] [l0, l1, l2, l3] rfl
  unfold bLe
  rw [then_nx (sSetN_eq (lc_eq (ds := [0, 1, 2, 3].map fun k : Nat => D.int (k : Nat)) rfl (by decide) c1))]
  show sThen _ _ (stL a r1 r2 m1 m2 t h q xs (some (.mu (.lst ([l0, l1, l2, l3].map D.int)))) none) = _
  have c2 := lc_filt (σ0 := wipeD (stL a r1 r2 m1 m2 t h q xs (some (.mu (.lst ([l0, l1, l2, l3].map D.int)))) none) [16]) (i := 16) (ft := fYes)
    (fe := fOp (gI fun i j => D.int (i - j)) (fOp gIx (fVarR 14) (fOp (gI fun i j => D.int (i + j)) (fVarR 16) (fC (D.int 1)))) (fOp gIx (fVarR 14) (fVar 16))) (enc := fun k : Nat => D.int (k : Nat)) (dec := D.int) (p := fun _ => some true)
    (f := fun k => match k with | 0 => some (l1 - l0) | 1 => some (l2 - l1) | 2 => some (l3 - l2) | _ => none) (fun x b h => by cases h; rfl) (fun k l hl => by
      match k, hl with
      | 0, hl => cases hl; rfl
      | 1, hl => cases hl; rfl
      | 2, hl => cases hl; rfl) [0, 1, 2] [l1 - l0, l2 - l1, l3 - l2] rfl
  rw [e1, e2, e3] at c2
  rw [then_nx (sSetN_eq (lc_eq (ds := [0, 1, 2].map fun k : Nat => D.int (k : Nat)) rfl (by decide) c2))]
  show sIf _ _ _ (stL a r1 r2 m1 m2 t h q xs (some (.mu (.lst ([l0, l1, l2, l3].map D.int)))) (some (.mu (.lst ([d, d, d].map D.int))))) = _
  rw [if_f]
  · rfl
  · refine or_f (bl_eq (op_eq (x := .int d) rfl rfl ?_)) (bl_eq (op_eq (x := .lst ([d, d, d].map D.int)) (y := .lst ([d, d, d].map D.int)) rfl rfl ?_))
    · show some (D.bl (decide (d < 1))) = some (.bl false)
      rw [decide_eq_false (by omega)]
    · rw [eq_lstI, decide_eq_true rfl]
      rfl
theorem loop_turn {z : Int} {zs : List Int} {x14 x15 : Option DV} (h0 : 0 < q.length) (h1 : q.length ≤ 100) (h2 : h.length ≤ 100) (hz : iW (h ++ q) = z :: zs) (hi : hiI z zs < (t : Int)) (lo : 0 ≤ loI z zs)
    (e : (ib r1 = true ∧ x14 = none ∧ x15 = none) ∨ (nb r1 = true ∧ ib r2 = true ∧ x14 = none ∧ x15 = none) ∨ (nb r1 = true ∧ nb r2 = true ∧ bLe (stL a r1 r2 m1 m2 t h q xs none none) = some (.nx (stL a r1 r2 m1 m2 t h q xs x14 x15)))) :
    pTurnB.1 ((stA a (kD r1 m1) (kD r2 m2) (.int (t : Nat)) .non .non (.tup [Cod.eW h, Cod.eW q])).set 10 (some (.mu (.lst xs)))) = some (.nx (stL a r1 r2 m1 m2 t h q xs x14 x15)) := by
  show pTurnB.1 [none, some (.im (.adr a)), none, some (.im (kD r1 m1)), some (.im (kD r2 m2)), some (.im (.int (t : Nat))), some (.im .non), some (.im .non), some (.im (.tup [Cod.eW h, Cod.eW q])), none, some (.mu (.lst xs)), none, none, none, none, none, none] = _
  rw [turnB_eq, if_f rfl]
  unfold bL
  rw [then_nx (asg_eq (a := .tup [Cod.eW h, Cod.eW q]) (σ' := stL a r1 r2 m1 m2 t h q xs none none) rfl rfl)]
  have hc : fOp gCatT (fVarR 12) (fVarR 13) (stL a r1 r2 m1 m2 t h q xs none none) = some (.tup ((z :: zs).map D.int)) := op_eq rfl rfl (by rw [cat_eq (by omega), eW_i, hz])
  have ne : gEq (fun b => b) (Cod.eW q) (.tup []) = some (.bl false) := by
    have := eq_tupI (fun b => b) (iW q) []
    rw [← eW_i] at this
    rw [show (D.tup []) = D.tup (([] : List Int).map D.int) from rfl, this, decide_eq_false]
    intro hq
    have : (iW q).length = 0 := by rw [hq]; rfl
    unfold iW at this
    rw [List.length_map] at this
    omega
  rw [then_nx (if_f (or_f (bl_eq (op_eq rfl rfl ne)) (or_f (bl_eq (op_eq (call1 hc (gMax_ints z zs _ rfl)) (y := .int (t : Nat)) rfl (by
    show some (D.bl (decide ((t : Int) ≤ hiI z zs))) = some (D.bl false)
    rw [decide_eq_false (by omega)]))) (bl_eq (op_eq (call1 hc (gMin_ints z zs _ rfl)) (y := .int 0) rfl (by
    show some (D.bl (decide (loI z zs < 0))) = some (D.bl false)
    rw [decide_eq_false (by omega)]))))))]
  show sIf _ _ _ (stL a r1 r2 m1 m2 t h q xs none none) = _
  have one : ∀ {b : Bool}, gEq (fun b => !b) (.str r1) (.str (Str.ofString "best")) = some (.bl b) → fBl (fOp (gEq fun b => !b) (fOp gIx (fVarR 3) (fC (D.int 0))) (fC (D.str (Str.ofString "best")))) (stL a r1 r2 m1 m2 t h q xs none none) = some b := fun e => bl_eq (op_eq (x := .str r1) rfl rfl e)
  have two : ∀ {b : Bool}, gEq (fun b => !b) (.str r2) (.str (Str.ofString "best")) = some (.bl b) → fBl (fOp (gEq fun b => !b) (fOp gIx (fVarR 4) (fC (D.int 0))) (fC (D.str (Str.ofString "best")))) (stL a r1 r2 m1 m2 t h q xs none none) = some b := fun e => bl_eq (op_eq (x := .str r2) rfl rfl e)
  rcases e with ⟨b1, rfl, rfl⟩ | ⟨b1, b2, rfl, rfl⟩ | ⟨b1, b2, b3⟩
  · rw [if_f (by
      unfold fAnd
      rw [one (eqO_eq b1)]
      rfl)]
    rfl
  · rw [if_f (and_eq (one (eqO_eq b1)) (two (eqO_eq b2)))]
    rfl
  · rw [if_t (and_eq (one (eqO_eq b1)) (two (eqO_eq b2)))]
    exact b3
end
end Deep
set_option maxRecDepth 100000
set_option maxHeartbeats 4000000
namespace Deep
open PySem PySem.Spec PyProof.Rows L2
/-! ### one case of the menu -/
def leOk (X Y : Tk) (t m : Nat) : Bool := match (X.tab m)[t - 1]?, (Y.tab m)[t - 1]? with
  | some hs, some ks => match subN ks hs with
    | z :: zs => decide (hiI z zs ≤ 0)
    | [] => false
  | _, _ => false
def zB (X Y : Tk) (t : Nat) (G : GS) (V : List (Nat × Int)) : Bool := match vals V with
  | some (z :: zs) => match Nat.ble V.length 100000, decide (hiI z zs = 0), waysN G 0 (some V) with
    | true, true, some F => match rowC V 0 F with
      | some rs => eqO (gBest (fun y a => PySem.W.dataLt y a) [.lst (rs.map rowK)]) (.tup [.int 0, .tup []]) && (Nat.ble F.length 100000 && (leOk X Y t 3 && leOk X Y t 4))
      | none => false
    | _, _, _ => false
  | _ => false
def dl (X Y : Tk) (h q : List Nat) (k : Nat) : Option Int := match lookR X.ex (h ++ repN k q), lookR Y.ex (h ++ repN k q) with
  | some n, some j => some ((j : Int) - (n : Int))
  | _, _ => none
def ldB (X Y : Tk) (h q : List Nat) : Bool := match dl X Y h q 0, dl X Y h q 1, dl X Y h q 2, dl X Y h q 3 with
  | some l0, some l1, some l2, some l3 => decide (1 ≤ l1 - l0) && (decide (l2 - l1 = l1 - l0) && decide (l3 - l2 = l1 - l0))
  | _, _, _, _ => false
def lB (X Y : Tk) (t : Nat) (G : GS) (q : Nat × List Nat) : Bool := match waysN G 0 none with
  | some F => match lookN F q.1 with
    | some h => (Nat.ble 1 q.2.length && (Nat.ble q.2.length 100 && Nat.ble h.length 100)) && ((match iW (h ++ q.2) with
      | z :: zs => decide (hiI z zs < (t : Int)) && decide (0 ≤ loI z zs)
      | [] => false) && (ib X.S.r || nb X.S.r && (ib Y.S.r || nb Y.S.r && ldB X Y h q.2)))
    | none => false
  | none => false
def caseB (X Y : Tk) (t : Nat) : Bool := match graphN (nxsp X.S Y.S t) 0 with
  | none => false
  | some G => match valuesN G 0 with
    | none => false
    | some v => match v.2 with
      | none => zB X Y t G v.1
      | some q => lB X Y t G q
theorem turn_mk {a : Addr} {x y f r l : D} {t m : Nat} {hs ks : List Nat} {σB : DSt} (h1 : runD 7 pLead.1 [x, y, .int (t : Nat)] = some f) (h2 : runD 10 pRow.1 [x, y, .int (t : Nat)] = some r) (h3 : runD 6 pLoop.1 [x, y, .int (t : Nat)] = some l)
    (c1 : f.isNon = r.isNon) (c2 : f.isNon = !l.isNon) (t1 : 1 ≤ t) (t3 : t ≤ 3) (hm : m = 3 ∨ m = 4) (e1 : hitsB x (rowsN t m) hs = true) (e2 : hitsB y (rowsN t m) ks = true)
    (hB : pTurnB.1 ((stA a x y (.int (t : Nat)) f r l).set 10 (some (.mu (.lst ((subN ks hs).map D.int))))) = some (.nx σB)) (b1 : σB[1]? = some (some (.im (.adr a)))) (b2 : σB.length = 17) : TurnOk a x y (.int (t : Nat)) (m : Nat) :=
  ⟨_, σB, _, _, turnA_run h1 h2 h3, turnC_run c1 c2, rfl, rfl, rfl, rows_ok t1 t3 (.inr hm), by
      rw [List.length_map]
      have := rows_len t1 t3 (m := m) (.inr hm)
      omega, lc_rows (fun r z h => call3 rfl rfl rfl h) _ hs ks e1 e2, hB, b1, b2⟩
theorem dl_some {X Y : Tk} (hX : X.Ok) (hY : Y.Ok) {h q : List Nat} {k : Nat} {l : Int} (e : dl X Y h q k = some l) : runD 6 pBy.1 [kD X.S.r X.S.m, kD Y.S.r Y.S.m, Cod.eW (h ++ repN k q)] = some (.int l) := by
  unfold dl at e
  cases e1 : lookR X.ex (h ++ repN k q) with
  | none => rw [e1] at e; cases e
  | some n =>
    cases e2 : lookR Y.ex (h ++ repN k q) with
    | none => rw [e1, e2] at e; cases e
    | some j =>
      rw [e1, e2] at e
      cases e
      exact by_run (hX.ex _ _ e1) (hY.ex _ _ e2)
theorem case_ok {X Y : Tk} (hX : X.Ok) (hY : Y.Ok) {t : Nat} (t1 : 1 ≤ t) (t3 : t ≤ 3) (e : caseB X Y t = true) (a : Addr) {m : Nat} (hm : m = 3 ∨ m = 4) : TurnOk a X.S.d Y.S.d (.int (t : Nat)) (m : Nat) := by
  obtain ⟨hs, p1, p2⟩ := hX.rows t m t1 t3 hm
  obtain ⟨ks, p3, p4⟩ := hY.rows t m t1 t3 hm
  unfold caseB at e
  cases hG : graphN (nxsp X.S Y.S t) 0 with
  | none => rw [hG] at e; cases e
  | some G =>
    rw [hG] at e
    have e : (match valuesN G 0 with
      | none => false
      | some v => match v.2 with
        | none => zB X Y t G v.1
        | some q => lB X Y t G q) = true := e
    have A := asked_ok hX.S hY.S t1 t3 hG
    cases hV : valuesN G 0 with
    | none => rw [hV] at e; cases e
    | some v =>
      rw [hV] at e
      obtain ⟨V, o⟩ := v
      cases o with
      | none =>
        have e : zB X Y t G V = true := e
        unfold zB at e
        split at e
        · rename_i z zs hv
          split at e
          · rename_i F k1 k2 k3
            cases hr : rowC V 0 F with
            | none => simp only [hr] at e; cases e
            | some rs =>
              simp only [hr] at e
              rw [Bool.and_eq_true, Bool.and_eq_true, Bool.and_eq_true] at e
              obtain ⟨q1, q2, q3, q4⟩ := e
              have hz : hiI z zs = 0 := of_decide_eq_true k2
              have L := (codOf X.S Y.S hX.S hY.S).lead_run A hV (Nat.le_of_ble_eq_true k1) hv
              have R := (codOf X.S Y.S hX.S hY.S).row_run (n := 0) (row := []) A hV (Nat.le_of_ble_eq_true k1) hv k3 (Nat.le_of_ble_eq_true q2) (by rw [hz]; exact hr) (eqO_eq q1)
              have P := (codOf X.S Y.S hX.S hY.S).loop_none A hV
              rw [hz] at L
              have lm : leOk X Y t m = true := by
                rcases hm with rfl | rfl
                · exact q3
                · exact q4
              unfold leOk at lm
              rw [p1, p3] at lm
              have lm : (match subN ks hs with
                | z :: zs => decide (hiI z zs ≤ 0)
                | [] => false) = true := lm
              cases hsub : subN ks hs with
              | nil => rw [hsub] at lm; cases lm
              | cons y ys =>
                rw [hsub] at lm
                have hb : runD 6 pBy.1 [X.S.d, Y.S.d, .tup []] = some (.int 0) := by_run (row := []) hX.nil hY.nil
                have hr0 : runD 7 pRows.1 [.int (t : Nat), .int 0] = some (.lst [.tup []]) := rows_ok t1 t3 (m := 0) (.inl rfl)
                exact turn_mk L R P rfl rfl t1 t3 hm p2 p4 (by
                  rw [hsub]
                  exact zero_run (of_decide_eq_true lm) hb hr0) rfl rfl
          · cases e
        · cases e
      | some q =>
        have e : lB X Y t G q = true := e
        unfold lB at e
        cases hW : waysN G 0 none with
        | none => rw [hW] at e; cases e
        | some F =>
          rw [hW] at e
          have e : (match lookN F q.1 with
            | some h => (Nat.ble 1 q.2.length && (Nat.ble q.2.length 100 && Nat.ble h.length 100)) && ((match iW (h ++ q.2) with
              | z :: zs => decide (hiI z zs < (t : Int)) && decide (0 ≤ loI z zs)
              | [] => false) && (ib X.S.r || nb X.S.r && (ib Y.S.r || nb Y.S.r && ldB X Y h q.2)))
            | none => false) = true := e
          cases hh : lookN F q.1 with
          | none => rw [hh] at e; cases e
          | some h =>
            rw [hh] at e
            have e : ((Nat.ble 1 q.2.length && (Nat.ble q.2.length 100 && Nat.ble h.length 100)) && ((match iW (h ++ q.2) with
              | z :: zs => decide (hiI z zs < (t : Int)) && decide (0 ≤ loI z zs)
              | [] => false) && (ib X.S.r || nb X.S.r && (ib Y.S.r || nb Y.S.r && ldB X Y h q.2)))) = true := e
            rw [Bool.and_eq_true, Bool.and_eq_true, Bool.and_eq_true, Bool.and_eq_true] at e
            obtain ⟨⟨n1, n2, n3⟩, n4, n5⟩ := e
            cases hi : iW (h ++ q.2) with
            | nil => rw [hi] at n4; cases n4
            | cons z zs =>
              rw [hi] at n4
              have n4 : (decide (hiI z zs < (t : Int)) && decide (0 ≤ loI z zs)) = true := n4
              rw [Bool.and_eq_true] at n4
              have L := (codOf X.S Y.S hX.S hY.S).lead_none A hV
              have R := (codOf X.S Y.S hX.S hY.S).row_none A hV
              have P := (codOf X.S Y.S hX.S hY.S).loop_run A hV hW hh
              have fin : ∃ x14 x15, ((ib X.S.r = true ∧ x14 = none ∧ x15 = none) ∨ (nb X.S.r = true ∧ ib Y.S.r = true ∧ x14 = none ∧ x15 = none) ∨ (nb X.S.r = true ∧ nb Y.S.r = true ∧ bLe (stL a X.S.r Y.S.r X.S.m Y.S.m t h q.2 ((subN ks hs).map D.int) none none) = some (.nx (stL a X.S.r Y.S.r X.S.m Y.S.m t h q.2 ((subN ks hs).map D.int) x14 x15)))) := by
                cases i1 : ib X.S.r with
                | true => exact ⟨none, none, .inl ⟨rfl, rfl, rfl⟩⟩
                | false =>
                  rw [i1, Bool.false_or, Bool.and_eq_true] at n5
                  obtain ⟨n6, n7⟩ := n5
                  cases i2 : ib Y.S.r with
                  | true => exact ⟨none, none, .inr (.inl ⟨n6, rfl, rfl, rfl⟩)⟩
                  | false =>
                    rw [i2, Bool.false_or, Bool.and_eq_true] at n7
                    obtain ⟨n7, n8⟩ := n7
                    unfold ldB at n8
                    split at n8
                    · rename_i l0 l1 l2 l3 d0 d1 d2 d3
                      rw [Bool.and_eq_true, Bool.and_eq_true] at n8
                      exact ⟨_, _, .inr (.inr ⟨n6, n7, leads_run (Nat.le_of_ble_eq_true n1) (Nat.le_of_ble_eq_true n2) (Nat.le_of_ble_eq_true n3) (of_decide_eq_true n8.1) rfl (of_decide_eq_true n8.2.1) (of_decide_eq_true n8.2.2)
                        (dl_some hX hY d0) (dl_some hX hY d1) (dl_some hX hY d2) (dl_some hX hY d3)⟩)⟩
                    · cases n8
              obtain ⟨x14, x15, fin⟩ := fin
              exact turn_mk L R P rfl rfl t1 t3 hm p2 p4 (loop_turn (Nat.le_of_ble_eq_true n1) (Nat.le_of_ble_eq_true n2) (Nat.le_of_ble_eq_true n3) hi (of_decide_eq_true n4.1) (of_decide_eq_true n4.2) fin) rfl rfl
end Deep
set_option maxRecDepth 100000
set_option maxHeartbeats 0
namespace Deep
open PySem PySem.Spec PyProof.Rows L2
theorem c_Eldest1_Eldest1 : allB (fun t => caseB tEldest1 tEldest1 t) [1, 2, 3] = true := by decide +kernel
theorem c_Eldest1_Eldest2 : allB (fun t => caseB tEldest1 tEldest2 t) [1, 2, 3] = true := by decide +kernel
theorem c_Eldest1_Lately1 : allB (fun t => caseB tEldest1 tLately1 t) [1, 2, 3] = true := by decide +kernel
theorem c_Eldest1_Lately2 : allB (fun t => caseB tEldest1 tLately2 t) [1, 2, 3] = true := by decide +kernel
theorem c_Eldest1_Newest1 : allB (fun t => caseB tEldest1 tNewest1 t) [1, 2, 3] = true := by decide +kernel
theorem c_Eldest1_Newest2 : allB (fun t => caseB tEldest1 tNewest2 t) [1, 2, 3] = true := by decide +kernel
theorem c_Eldest1_Seldom1 : allB (fun t => caseB tEldest1 tSeldom1 t) [1, 2, 3] = true := by decide +kernel
theorem c_Eldest1_Seldom2 : allB (fun t => caseB tEldest1 tSeldom2 t) [1, 2, 3] = true := by decide +kernel
theorem c_Eldest1_Best1 : allB (fun t => caseB tEldest1 tBest1 t) [1, 2, 3] = true := by decide +kernel
theorem c_Eldest1_Best2 : allB (fun t => caseB tEldest1 tBest2 t) [1, 2, 3] = true := by decide +kernel
theorem c_Eldest2_Eldest1 : allB (fun t => caseB tEldest2 tEldest1 t) [1, 2, 3] = true := by decide +kernel
theorem c_Eldest2_Eldest2 : allB (fun t => caseB tEldest2 tEldest2 t) [1, 2, 3] = true := by decide +kernel
theorem c_Eldest2_Lately1 : allB (fun t => caseB tEldest2 tLately1 t) [1, 2, 3] = true := by decide +kernel
theorem c_Eldest2_Lately2 : allB (fun t => caseB tEldest2 tLately2 t) [1, 2, 3] = true := by decide +kernel
theorem c_Eldest2_Newest1 : allB (fun t => caseB tEldest2 tNewest1 t) [1, 2, 3] = true := by decide +kernel
theorem c_Eldest2_Newest2 : allB (fun t => caseB tEldest2 tNewest2 t) [1, 2, 3] = true := by decide +kernel
theorem c_Eldest2_Seldom1 : allB (fun t => caseB tEldest2 tSeldom1 t) [1, 2, 3] = true := by decide +kernel
theorem c_Eldest2_Seldom2 : allB (fun t => caseB tEldest2 tSeldom2 t) [1, 2, 3] = true := by decide +kernel
theorem c_Eldest2_Best1 : allB (fun t => caseB tEldest2 tBest1 t) [1, 2, 3] = true := by decide +kernel
theorem c_Eldest2_Best2 : allB (fun t => caseB tEldest2 tBest2 t) [1, 2, 3] = true := by decide +kernel
theorem c_Lately1_Eldest1 : allB (fun t => caseB tLately1 tEldest1 t) [1, 2, 3] = true := by decide +kernel
theorem c_Lately1_Eldest2 : allB (fun t => caseB tLately1 tEldest2 t) [1, 2, 3] = true := by decide +kernel
theorem c_Lately1_Lately1 : allB (fun t => caseB tLately1 tLately1 t) [1, 2, 3] = true := by decide +kernel
theorem c_Lately1_Lately2 : allB (fun t => caseB tLately1 tLately2 t) [1, 2, 3] = true := by decide +kernel
theorem c_Lately1_Newest1 : allB (fun t => caseB tLately1 tNewest1 t) [1, 2, 3] = true := by decide +kernel
theorem c_Lately1_Newest2 : allB (fun t => caseB tLately1 tNewest2 t) [1, 2, 3] = true := by decide +kernel
theorem c_Lately1_Seldom1 : allB (fun t => caseB tLately1 tSeldom1 t) [1, 2, 3] = true := by decide +kernel
theorem c_Lately1_Seldom2 : allB (fun t => caseB tLately1 tSeldom2 t) [1, 2, 3] = true := by decide +kernel
theorem c_Lately1_Best1 : allB (fun t => caseB tLately1 tBest1 t) [1, 2, 3] = true := by decide +kernel
theorem c_Lately1_Best2 : allB (fun t => caseB tLately1 tBest2 t) [1, 2, 3] = true := by decide +kernel
theorem c_Lately2_Eldest1 : allB (fun t => caseB tLately2 tEldest1 t) [1, 2, 3] = true := by decide +kernel
theorem c_Lately2_Eldest2 : allB (fun t => caseB tLately2 tEldest2 t) [1, 2, 3] = true := by decide +kernel
theorem c_Lately2_Lately1 : allB (fun t => caseB tLately2 tLately1 t) [1, 2, 3] = true := by decide +kernel
theorem c_Lately2_Lately2 : allB (fun t => caseB tLately2 tLately2 t) [1, 2, 3] = true := by decide +kernel
theorem c_Lately2_Newest1 : allB (fun t => caseB tLately2 tNewest1 t) [1, 2, 3] = true := by decide +kernel
theorem c_Lately2_Newest2 : allB (fun t => caseB tLately2 tNewest2 t) [1, 2, 3] = true := by decide +kernel
theorem c_Lately2_Seldom1 : allB (fun t => caseB tLately2 tSeldom1 t) [1, 2, 3] = true := by decide +kernel
theorem c_Lately2_Seldom2 : allB (fun t => caseB tLately2 tSeldom2 t) [1, 2, 3] = true := by decide +kernel
theorem c_Lately2_Best1 : allB (fun t => caseB tLately2 tBest1 t) [1, 2, 3] = true := by decide +kernel
theorem c_Lately2_Best2 : allB (fun t => caseB tLately2 tBest2 t) [1, 2, 3] = true := by decide +kernel
theorem c_Newest1_Eldest1 : allB (fun t => caseB tNewest1 tEldest1 t) [1, 2, 3] = true := by decide +kernel
theorem c_Newest1_Eldest2 : allB (fun t => caseB tNewest1 tEldest2 t) [1, 2, 3] = true := by decide +kernel
theorem c_Newest1_Lately1 : allB (fun t => caseB tNewest1 tLately1 t) [1, 2, 3] = true := by decide +kernel
theorem c_Newest1_Lately2 : allB (fun t => caseB tNewest1 tLately2 t) [1, 2, 3] = true := by decide +kernel
theorem c_Newest1_Newest1 : allB (fun t => caseB tNewest1 tNewest1 t) [1, 2, 3] = true := by decide +kernel
theorem c_Newest1_Newest2 : allB (fun t => caseB tNewest1 tNewest2 t) [1, 2, 3] = true := by decide +kernel
theorem c_Newest1_Seldom1 : allB (fun t => caseB tNewest1 tSeldom1 t) [1, 2, 3] = true := by decide +kernel
theorem c_Newest1_Seldom2 : allB (fun t => caseB tNewest1 tSeldom2 t) [1, 2, 3] = true := by decide +kernel
theorem c_Newest1_Best1 : allB (fun t => caseB tNewest1 tBest1 t) [1, 2, 3] = true := by decide +kernel
theorem c_Newest1_Best2 : allB (fun t => caseB tNewest1 tBest2 t) [1, 2, 3] = true := by decide +kernel
theorem c_Newest2_Eldest1 : allB (fun t => caseB tNewest2 tEldest1 t) [1, 2, 3] = true := by decide +kernel
theorem c_Newest2_Eldest2 : allB (fun t => caseB tNewest2 tEldest2 t) [1, 2, 3] = true := by decide +kernel
theorem c_Newest2_Lately1 : allB (fun t => caseB tNewest2 tLately1 t) [1, 2, 3] = true := by decide +kernel
theorem c_Newest2_Lately2 : allB (fun t => caseB tNewest2 tLately2 t) [1, 2, 3] = true := by decide +kernel
theorem c_Newest2_Newest1 : allB (fun t => caseB tNewest2 tNewest1 t) [1, 2, 3] = true := by decide +kernel
theorem c_Newest2_Newest2 : allB (fun t => caseB tNewest2 tNewest2 t) [1, 2, 3] = true := by decide +kernel
theorem c_Newest2_Seldom1 : allB (fun t => caseB tNewest2 tSeldom1 t) [1, 2, 3] = true := by decide +kernel
theorem c_Newest2_Seldom2 : allB (fun t => caseB tNewest2 tSeldom2 t) [1, 2, 3] = true := by decide +kernel
theorem c_Newest2_Best1 : allB (fun t => caseB tNewest2 tBest1 t) [1, 2, 3] = true := by decide +kernel
theorem c_Newest2_Best2 : allB (fun t => caseB tNewest2 tBest2 t) [1, 2, 3] = true := by decide +kernel
theorem c_Seldom1_Eldest1 : allB (fun t => caseB tSeldom1 tEldest1 t) [1, 2, 3] = true := by decide +kernel
theorem c_Seldom1_Eldest2 : allB (fun t => caseB tSeldom1 tEldest2 t) [1, 2, 3] = true := by decide +kernel
theorem c_Seldom1_Lately1 : allB (fun t => caseB tSeldom1 tLately1 t) [1, 2, 3] = true := by decide +kernel
theorem c_Seldom1_Lately2 : allB (fun t => caseB tSeldom1 tLately2 t) [1, 2, 3] = true := by decide +kernel
theorem c_Seldom1_Newest1 : allB (fun t => caseB tSeldom1 tNewest1 t) [1, 2, 3] = true := by decide +kernel
theorem c_Seldom1_Newest2 : allB (fun t => caseB tSeldom1 tNewest2 t) [1, 2, 3] = true := by decide +kernel
theorem c_Seldom1_Seldom1 : allB (fun t => caseB tSeldom1 tSeldom1 t) [1, 2, 3] = true := by decide +kernel
theorem c_Seldom1_Seldom2 : allB (fun t => caseB tSeldom1 tSeldom2 t) [1, 2, 3] = true := by decide +kernel
theorem c_Seldom1_Best1 : allB (fun t => caseB tSeldom1 tBest1 t) [1, 2, 3] = true := by decide +kernel
theorem c_Seldom1_Best2 : allB (fun t => caseB tSeldom1 tBest2 t) [1, 2, 3] = true := by decide +kernel
theorem c_Seldom2_Eldest1 : allB (fun t => caseB tSeldom2 tEldest1 t) [1, 2, 3] = true := by decide +kernel
theorem c_Seldom2_Eldest2 : allB (fun t => caseB tSeldom2 tEldest2 t) [1, 2, 3] = true := by decide +kernel
theorem c_Seldom2_Lately1 : allB (fun t => caseB tSeldom2 tLately1 t) [1, 2, 3] = true := by decide +kernel
theorem c_Seldom2_Lately2 : allB (fun t => caseB tSeldom2 tLately2 t) [1, 2, 3] = true := by decide +kernel
theorem c_Seldom2_Newest1 : allB (fun t => caseB tSeldom2 tNewest1 t) [1, 2, 3] = true := by decide +kernel
theorem c_Seldom2_Newest2 : allB (fun t => caseB tSeldom2 tNewest2 t) [1, 2, 3] = true := by decide +kernel
theorem c_Seldom2_Seldom1 : allB (fun t => caseB tSeldom2 tSeldom1 t) [1, 2, 3] = true := by decide +kernel
theorem c_Seldom2_Seldom2 : allB (fun t => caseB tSeldom2 tSeldom2 t) [1, 2, 3] = true := by decide +kernel
theorem c_Seldom2_Best1 : allB (fun t => caseB tSeldom2 tBest1 t) [1, 2, 3] = true := by decide +kernel
theorem c_Seldom2_Best2 : allB (fun t => caseB tSeldom2 tBest2 t) [1, 2, 3] = true := by decide +kernel
theorem c_Best1_Eldest1 : allB (fun t => caseB tBest1 tEldest1 t) [1, 2, 3] = true := by decide +kernel
theorem c_Best1_Eldest2 : allB (fun t => caseB tBest1 tEldest2 t) [1, 2, 3] = true := by decide +kernel
theorem c_Best1_Lately1 : allB (fun t => caseB tBest1 tLately1 t) [1, 2, 3] = true := by decide +kernel
theorem c_Best1_Lately2 : allB (fun t => caseB tBest1 tLately2 t) [1, 2, 3] = true := by decide +kernel
theorem c_Best1_Newest1 : allB (fun t => caseB tBest1 tNewest1 t) [1, 2, 3] = true := by decide +kernel
theorem c_Best1_Newest2 : allB (fun t => caseB tBest1 tNewest2 t) [1, 2, 3] = true := by decide +kernel
theorem c_Best1_Seldom1 : allB (fun t => caseB tBest1 tSeldom1 t) [1, 2, 3] = true := by decide +kernel
theorem c_Best1_Seldom2 : allB (fun t => caseB tBest1 tSeldom2 t) [1, 2, 3] = true := by decide +kernel
theorem c_Best1_Best1 : allB (fun t => caseB tBest1 tBest1 t) [1, 2, 3] = true := by decide +kernel
theorem c_Best1_Best2 : allB (fun t => caseB tBest1 tBest2 t) [1, 2, 3] = true := by decide +kernel
theorem c_Best2_Eldest1 : allB (fun t => caseB tBest2 tEldest1 t) [1, 2, 3] = true := by decide +kernel
theorem c_Best2_Eldest2 : allB (fun t => caseB tBest2 tEldest2 t) [1, 2, 3] = true := by decide +kernel
theorem c_Best2_Lately1 : allB (fun t => caseB tBest2 tLately1 t) [1, 2, 3] = true := by decide +kernel
theorem c_Best2_Lately2 : allB (fun t => caseB tBest2 tLately2 t) [1, 2, 3] = true := by decide +kernel
theorem c_Best2_Newest1 : allB (fun t => caseB tBest2 tNewest1 t) [1, 2, 3] = true := by decide +kernel
theorem c_Best2_Newest2 : allB (fun t => caseB tBest2 tNewest2 t) [1, 2, 3] = true := by decide +kernel
theorem c_Best2_Seldom1 : allB (fun t => caseB tBest2 tSeldom1 t) [1, 2, 3] = true := by decide +kernel
theorem c_Best2_Seldom2 : allB (fun t => caseB tBest2 tSeldom2 t) [1, 2, 3] = true := by decide +kernel
theorem c_Best2_Best1 : allB (fun t => caseB tBest2 tBest1 t) [1, 2, 3] = true := by decide +kernel
theorem c_Best2_Best2 : allB (fun t => caseB tBest2 tBest2 t) [1, 2, 3] = true := by decide +kernel
def tks : List Tk := [tEldest1, tEldest2, tLately1, tLately2, tNewest1, tNewest2, tSeldom1, tSeldom2, tBest1, tBest2]
theorem mem_tks {X : Tk} (h : X ∈ tks) : X = tEldest1 ∨ X = tEldest2 ∨ X = tLately1 ∨ X = tLately2 ∨ X = tNewest1 ∨ X = tNewest2 ∨ X = tSeldom1 ∨ X = tSeldom2 ∨ X = tBest1 ∨ X = tBest2 := by
  simpa only [tks, List.mem_cons, List.not_mem_nil, or_false] using h
theorem all_ok : ∀ X ∈ tks, X.Ok := fun X h => by
  rcases mem_tks h with rfl | rfl | rfl | rfl | rfl | rfl | rfl | rfl | rfl | rfl
  · exact tEldest1_ok
  · exact tEldest2_ok
  · exact tLately1_ok
  · exact tLately2_ok
  · exact tNewest1_ok
  · exact tNewest2_ok
  · exact tSeldom1_ok
  · exact tSeldom2_ok
  · exact tBest1_ok
  · exact tBest2_ok
theorem allB_cons {α : Type} {p : α → Bool} {x : α} {xs : List α} (h : p x = true) (h2 : allB p xs = true) : allB p (x :: xs) = true := by
  rw [allB, h]
  exact h2
theorem r_Eldest1 : allB (fun Y => allB (fun t => caseB tEldest1 Y t) [1, 2, 3]) tks = true :=
  allB_cons (p := fun Y => allB (fun t => caseB tEldest1 Y t) [1, 2, 3]) c_Eldest1_Eldest1 (allB_cons (p := fun Y => allB (fun t => caseB tEldest1 Y t) [1, 2, 3]) c_Eldest1_Eldest2 (allB_cons (p := fun Y => allB (fun t => caseB tEldest1 Y t) [1, 2, 3]) c_Eldest1_Lately1 (allB_cons (p := fun Y => allB (fun t => caseB tEldest1 Y t) [1, 2, 3]) c_Eldest1_Lately2 (allB_cons (p := fun Y => allB (fun t => caseB tEldest1 Y t) [1, 2, 3]) c_Eldest1_Newest1 (allB_cons (p := fun Y => allB (fun t => caseB tEldest1 Y t) [1, 2, 3]) c_Eldest1_Newest2 (allB_cons (p := fun Y => allB (fun t => caseB tEldest1 Y t) [1, 2, 3]) c_Eldest1_Seldom1 (allB_cons (p := fun Y => allB (fun t => caseB tEldest1 Y t) [1, 2, 3]) c_Eldest1_Seldom2 (allB_cons (p := fun Y => allB (fun t => caseB tEldest1 Y t) [1, 2, 3]) c_Eldest1_Best1 (allB_cons (p := fun Y => allB (fun t => caseB tEldest1 Y t) [1, 2, 3]) c_Eldest1_Best2 (rfl))))))))))
theorem r_Eldest2 : allB (fun Y => allB (fun t => caseB tEldest2 Y t) [1, 2, 3]) tks = true :=
  allB_cons (p := fun Y => allB (fun t => caseB tEldest2 Y t) [1, 2, 3]) c_Eldest2_Eldest1 (allB_cons (p := fun Y => allB (fun t => caseB tEldest2 Y t) [1, 2, 3]) c_Eldest2_Eldest2 (allB_cons (p := fun Y => allB (fun t => caseB tEldest2 Y t) [1, 2, 3]) c_Eldest2_Lately1 (allB_cons (p := fun Y => allB (fun t => caseB tEldest2 Y t) [1, 2, 3]) c_Eldest2_Lately2 (allB_cons (p := fun Y => allB (fun t => caseB tEldest2 Y t) [1, 2, 3]) c_Eldest2_Newest1 (allB_cons (p := fun Y => allB (fun t => caseB tEldest2 Y t) [1, 2, 3]) c_Eldest2_Newest2 (allB_cons (p := fun Y => allB (fun t => caseB tEldest2 Y t) [1, 2, 3]) c_Eldest2_Seldom1 (allB_cons (p := fun Y => allB (fun t => caseB tEldest2 Y t) [1, 2, 3]) c_Eldest2_Seldom2 (allB_cons (p := fun Y => allB (fun t => caseB tEldest2 Y t) [1, 2, 3]) c_Eldest2_Best1 (allB_cons (p := fun Y => allB (fun t => caseB tEldest2 Y t) [1, 2, 3]) c_Eldest2_Best2 (rfl))))))))))
theorem r_Lately1 : allB (fun Y => allB (fun t => caseB tLately1 Y t) [1, 2, 3]) tks = true :=
  allB_cons (p := fun Y => allB (fun t => caseB tLately1 Y t) [1, 2, 3]) c_Lately1_Eldest1 (allB_cons (p := fun Y => allB (fun t => caseB tLately1 Y t) [1, 2, 3]) c_Lately1_Eldest2 (allB_cons (p := fun Y => allB (fun t => caseB tLately1 Y t) [1, 2, 3]) c_Lately1_Lately1 (allB_cons (p := fun Y => allB (fun t => caseB tLately1 Y t) [1, 2, 3]) c_Lately1_Lately2 (allB_cons (p := fun Y => allB (fun t => caseB tLately1 Y t) [1, 2, 3]) c_Lately1_Newest1 (allB_cons (p := fun Y => allB (fun t => caseB tLately1 Y t) [1, 2, 3]) c_Lately1_Newest2 (allB_cons (p := fun Y => allB (fun t => caseB tLately1 Y t) [1, 2, 3]) c_Lately1_Seldom1 (allB_cons (p := fun Y => allB (fun t => caseB tLately1 Y t) [1, 2, 3]) c_Lately1_Seldom2 (allB_cons (p := fun Y => allB (fun t => caseB tLately1 Y t) [1, 2, 3]) c_Lately1_Best1 (allB_cons (p := fun Y => allB (fun t => caseB tLately1 Y t) [1, 2, 3]) c_Lately1_Best2 (rfl))))))))))
theorem r_Lately2 : allB (fun Y => allB (fun t => caseB tLately2 Y t) [1, 2, 3]) tks = true :=
  allB_cons (p := fun Y => allB (fun t => caseB tLately2 Y t) [1, 2, 3]) c_Lately2_Eldest1 (allB_cons (p := fun Y => allB (fun t => caseB tLately2 Y t) [1, 2, 3]) c_Lately2_Eldest2 (allB_cons (p := fun Y => allB (fun t => caseB tLately2 Y t) [1, 2, 3]) c_Lately2_Lately1 (allB_cons (p := fun Y => allB (fun t => caseB tLately2 Y t) [1, 2, 3]) c_Lately2_Lately2 (allB_cons (p := fun Y => allB (fun t => caseB tLately2 Y t) [1, 2, 3]) c_Lately2_Newest1 (allB_cons (p := fun Y => allB (fun t => caseB tLately2 Y t) [1, 2, 3]) c_Lately2_Newest2 (allB_cons (p := fun Y => allB (fun t => caseB tLately2 Y t) [1, 2, 3]) c_Lately2_Seldom1 (allB_cons (p := fun Y => allB (fun t => caseB tLately2 Y t) [1, 2, 3]) c_Lately2_Seldom2 (allB_cons (p := fun Y => allB (fun t => caseB tLately2 Y t) [1, 2, 3]) c_Lately2_Best1 (allB_cons (p := fun Y => allB (fun t => caseB tLately2 Y t) [1, 2, 3]) c_Lately2_Best2 (rfl))))))))))
theorem r_Newest1 : allB (fun Y => allB (fun t => caseB tNewest1 Y t) [1, 2, 3]) tks = true :=
  allB_cons (p := fun Y => allB (fun t => caseB tNewest1 Y t) [1, 2, 3]) c_Newest1_Eldest1 (allB_cons (p := fun Y => allB (fun t => caseB tNewest1 Y t) [1, 2, 3]) c_Newest1_Eldest2 (allB_cons (p := fun Y => allB (fun t => caseB tNewest1 Y t) [1, 2, 3]) c_Newest1_Lately1 (allB_cons (p := fun Y => allB (fun t => caseB tNewest1 Y t) [1, 2, 3]) c_Newest1_Lately2 (allB_cons (p := fun Y => allB (fun t => caseB tNewest1 Y t) [1, 2, 3]) c_Newest1_Newest1 (allB_cons (p := fun Y => allB (fun t => caseB tNewest1 Y t) [1, 2, 3]) c_Newest1_Newest2 (allB_cons (p := fun Y => allB (fun t => caseB tNewest1 Y t) [1, 2, 3]) c_Newest1_Seldom1 (allB_cons (p := fun Y => allB (fun t => caseB tNewest1 Y t) [1, 2, 3]) c_Newest1_Seldom2 (allB_cons (p := fun Y => allB (fun t => caseB tNewest1 Y t) [1, 2, 3]) c_Newest1_Best1 (allB_cons (p := fun Y => allB (fun t => caseB tNewest1 Y t) [1, 2, 3]) c_Newest1_Best2 (rfl))))))))))
theorem r_Newest2 : allB (fun Y => allB (fun t => caseB tNewest2 Y t) [1, 2, 3]) tks = true :=
  allB_cons (p := fun Y => allB (fun t => caseB tNewest2 Y t) [1, 2, 3]) c_Newest2_Eldest1 (allB_cons (p := fun Y => allB (fun t => caseB tNewest2 Y t) [1, 2, 3]) c_Newest2_Eldest2 (allB_cons (p := fun Y => allB (fun t => caseB tNewest2 Y t) [1, 2, 3]) c_Newest2_Lately1 (allB_cons (p := fun Y => allB (fun t => caseB tNewest2 Y t) [1, 2, 3]) c_Newest2_Lately2 (allB_cons (p := fun Y => allB (fun t => caseB tNewest2 Y t) [1, 2, 3]) c_Newest2_Newest1 (allB_cons (p := fun Y => allB (fun t => caseB tNewest2 Y t) [1, 2, 3]) c_Newest2_Newest2 (allB_cons (p := fun Y => allB (fun t => caseB tNewest2 Y t) [1, 2, 3]) c_Newest2_Seldom1 (allB_cons (p := fun Y => allB (fun t => caseB tNewest2 Y t) [1, 2, 3]) c_Newest2_Seldom2 (allB_cons (p := fun Y => allB (fun t => caseB tNewest2 Y t) [1, 2, 3]) c_Newest2_Best1 (allB_cons (p := fun Y => allB (fun t => caseB tNewest2 Y t) [1, 2, 3]) c_Newest2_Best2 (rfl))))))))))
theorem r_Seldom1 : allB (fun Y => allB (fun t => caseB tSeldom1 Y t) [1, 2, 3]) tks = true :=
  allB_cons (p := fun Y => allB (fun t => caseB tSeldom1 Y t) [1, 2, 3]) c_Seldom1_Eldest1 (allB_cons (p := fun Y => allB (fun t => caseB tSeldom1 Y t) [1, 2, 3]) c_Seldom1_Eldest2 (allB_cons (p := fun Y => allB (fun t => caseB tSeldom1 Y t) [1, 2, 3]) c_Seldom1_Lately1 (allB_cons (p := fun Y => allB (fun t => caseB tSeldom1 Y t) [1, 2, 3]) c_Seldom1_Lately2 (allB_cons (p := fun Y => allB (fun t => caseB tSeldom1 Y t) [1, 2, 3]) c_Seldom1_Newest1 (allB_cons (p := fun Y => allB (fun t => caseB tSeldom1 Y t) [1, 2, 3]) c_Seldom1_Newest2 (allB_cons (p := fun Y => allB (fun t => caseB tSeldom1 Y t) [1, 2, 3]) c_Seldom1_Seldom1 (allB_cons (p := fun Y => allB (fun t => caseB tSeldom1 Y t) [1, 2, 3]) c_Seldom1_Seldom2 (allB_cons (p := fun Y => allB (fun t => caseB tSeldom1 Y t) [1, 2, 3]) c_Seldom1_Best1 (allB_cons (p := fun Y => allB (fun t => caseB tSeldom1 Y t) [1, 2, 3]) c_Seldom1_Best2 (rfl))))))))))
theorem r_Seldom2 : allB (fun Y => allB (fun t => caseB tSeldom2 Y t) [1, 2, 3]) tks = true :=
  allB_cons (p := fun Y => allB (fun t => caseB tSeldom2 Y t) [1, 2, 3]) c_Seldom2_Eldest1 (allB_cons (p := fun Y => allB (fun t => caseB tSeldom2 Y t) [1, 2, 3]) c_Seldom2_Eldest2 (allB_cons (p := fun Y => allB (fun t => caseB tSeldom2 Y t) [1, 2, 3]) c_Seldom2_Lately1 (allB_cons (p := fun Y => allB (fun t => caseB tSeldom2 Y t) [1, 2, 3]) c_Seldom2_Lately2 (allB_cons (p := fun Y => allB (fun t => caseB tSeldom2 Y t) [1, 2, 3]) c_Seldom2_Newest1 (allB_cons (p := fun Y => allB (fun t => caseB tSeldom2 Y t) [1, 2, 3]) c_Seldom2_Newest2 (allB_cons (p := fun Y => allB (fun t => caseB tSeldom2 Y t) [1, 2, 3]) c_Seldom2_Seldom1 (allB_cons (p := fun Y => allB (fun t => caseB tSeldom2 Y t) [1, 2, 3]) c_Seldom2_Seldom2 (allB_cons (p := fun Y => allB (fun t => caseB tSeldom2 Y t) [1, 2, 3]) c_Seldom2_Best1 (allB_cons (p := fun Y => allB (fun t => caseB tSeldom2 Y t) [1, 2, 3]) c_Seldom2_Best2 (rfl))))))))))
theorem r_Best1 : allB (fun Y => allB (fun t => caseB tBest1 Y t) [1, 2, 3]) tks = true :=
  allB_cons (p := fun Y => allB (fun t => caseB tBest1 Y t) [1, 2, 3]) c_Best1_Eldest1 (allB_cons (p := fun Y => allB (fun t => caseB tBest1 Y t) [1, 2, 3]) c_Best1_Eldest2 (allB_cons (p := fun Y => allB (fun t => caseB tBest1 Y t) [1, 2, 3]) c_Best1_Lately1 (allB_cons (p := fun Y => allB (fun t => caseB tBest1 Y t) [1, 2, 3]) c_Best1_Lately2 (allB_cons (p := fun Y => allB (fun t => caseB tBest1 Y t) [1, 2, 3]) c_Best1_Newest1 (allB_cons (p := fun Y => allB (fun t => caseB tBest1 Y t) [1, 2, 3]) c_Best1_Newest2 (allB_cons (p := fun Y => allB (fun t => caseB tBest1 Y t) [1, 2, 3]) c_Best1_Seldom1 (allB_cons (p := fun Y => allB (fun t => caseB tBest1 Y t) [1, 2, 3]) c_Best1_Seldom2 (allB_cons (p := fun Y => allB (fun t => caseB tBest1 Y t) [1, 2, 3]) c_Best1_Best1 (allB_cons (p := fun Y => allB (fun t => caseB tBest1 Y t) [1, 2, 3]) c_Best1_Best2 (rfl))))))))))
theorem r_Best2 : allB (fun Y => allB (fun t => caseB tBest2 Y t) [1, 2, 3]) tks = true :=
  allB_cons (p := fun Y => allB (fun t => caseB tBest2 Y t) [1, 2, 3]) c_Best2_Eldest1 (allB_cons (p := fun Y => allB (fun t => caseB tBest2 Y t) [1, 2, 3]) c_Best2_Eldest2 (allB_cons (p := fun Y => allB (fun t => caseB tBest2 Y t) [1, 2, 3]) c_Best2_Lately1 (allB_cons (p := fun Y => allB (fun t => caseB tBest2 Y t) [1, 2, 3]) c_Best2_Lately2 (allB_cons (p := fun Y => allB (fun t => caseB tBest2 Y t) [1, 2, 3]) c_Best2_Newest1 (allB_cons (p := fun Y => allB (fun t => caseB tBest2 Y t) [1, 2, 3]) c_Best2_Newest2 (allB_cons (p := fun Y => allB (fun t => caseB tBest2 Y t) [1, 2, 3]) c_Best2_Seldom1 (allB_cons (p := fun Y => allB (fun t => caseB tBest2 Y t) [1, 2, 3]) c_Best2_Seldom2 (allB_cons (p := fun Y => allB (fun t => caseB tBest2 Y t) [1, 2, 3]) c_Best2_Best1 (allB_cons (p := fun Y => allB (fun t => caseB tBest2 Y t) [1, 2, 3]) c_Best2_Best2 (rfl))))))))))
theorem all_cases : ∀ X ∈ tks, allB (fun Y => allB (fun t => caseB X Y t) [1, 2, 3]) tks = true := fun X h => by
  rcases mem_tks h with rfl | rfl | rfl | rfl | rfl | rfl | rfl | rfl | rfl | rfl
  · exact r_Eldest1
  · exact r_Eldest2
  · exact r_Lately1
  · exact r_Lately2
  · exact r_Newest1
  · exact r_Newest2
  · exact r_Seldom1
  · exact r_Seldom2
  · exact r_Best1
  · exact r_Best2
end Deep
set_option maxRecDepth 100000
set_option maxHeartbeats 4000000
namespace Deep
open PySem PySem.Spec PyProof.Rows L2
/-! ### all cases -/
theorem kind_of {r : Str} {m : Int} (hr : r ∈ rules) (h1 : 1 ≤ m) (h2 : m ≤ 2) : ∃ T ∈ tks, T.S.r = r ∧ T.S.m = m := by
  have hm : m = 1 ∨ m = 2 := by omega
  simp only [rules, List.mem_cons, List.not_mem_nil, or_false] at hr
  rcases hr with rfl | rfl | rfl | rfl | rfl <;> rcases hm with rfl | rfl
  · exact ⟨tEldest1, by simp [tks], rfl, rfl⟩
  · exact ⟨tEldest2, by simp [tks], rfl, rfl⟩
  · exact ⟨tLately1, by simp [tks], rfl, rfl⟩
  · exact ⟨tLately2, by simp [tks], rfl, rfl⟩
  · exact ⟨tNewest1, by simp [tks], rfl, rfl⟩
  · exact ⟨tNewest2, by simp [tks], rfl, rfl⟩
  · exact ⟨tSeldom1, by simp [tks], rfl, rfl⟩
  · exact ⟨tSeldom2, by simp [tks], rfl, rfl⟩
  · exact ⟨tBest1, by simp [tks], rfl, rfl⟩
  · exact ⟨tBest2, by simp [tks], rfl, rfl⟩
theorem plain : Plain := fun a r1 r2 m1 m2 t m hr1 hr2 a1 a2 a3 a4 a5 a6 hm => by
  obtain ⟨X, hX, rfl, rfl⟩ := kind_of hr1 a1 a2
  obtain ⟨Y, hY, rfl, rfl⟩ := kind_of hr2 a3 a4
  have ht : t = ((1 : Nat) : Int) ∨ t = ((2 : Nat) : Int) ∨ t = ((3 : Nat) : Int) := by omega
  have c := allB_mem (allB_mem (all_cases X hX) Y hY)
  have go : ∀ n : Nat, 1 ≤ n → n ≤ 3 → n ∈ [1, 2, 3] → TurnOk a X.S.d Y.S.d (.int (n : Nat)) m := fun n n1 n3 hn => by
    have hm : m = ((3 : Nat) : Int) ∨ m = ((4 : Nat) : Int) := hm
    rcases hm with rfl | rfl
    · exact case_ok (all_ok X hX) (all_ok Y hY) n1 n3 (c n hn) a (.inl rfl)
    · exact case_ok (all_ok X hX) (all_ok Y hY) n1 n3 (c n hn) a (.inr rfl)
  rcases ht with rfl | rfl | rfl
  · exact go 1 (by decide) (by decide) (by simp)
  · exact go 2 (by decide) (by decide) (by simp)
  · exact go 3 (by decide) (by decide) (by simp)
end Deep
open PySem PySem.W PyProof.Rows
set_option maxRecDepth 100000 in
set_option maxHeartbeats 0 in
theorem PySem.Challenge.cw_buildroom_k42_whole_leads_holds : PySem.Challenge.rw_buildroom_k42_whole_leads.Holds := by
  w_on; o_law; k_head; (case hw => w_witness2)
  k_fill
  refine Deep.walk (l := PySem.Challenge.rw_buildroom_k42_whole_leads) rfl rfl (fun w h Y => PySem.W.kIn_of Y) ?F
  case F =>
    intro w mg fa h KX G hmg
    refine' Deep.all_mk Deep.plain KX G hmg ?a0 ?l0 ?c0 ?k0 ?a1 ?l1 ?c1 ?k1 ?a2 ?l2 ?c2 ?k2 ?a3 ?l3 ?c3 ?k3 ?a4 ?l4 ?c4 ?k4 ?a5 ?l5 ?c5 ?k5 ?a6 ?l6 ?c6 ?k6 ?a7 ?l7 ?c7 ?k7 ?a8 ?l8 ?c8 ?k8 ?a9 ?l9 ?c9 ?k9 ?a10 ?l10 ?c10 ?k10 ?a11 ?l11 ?c11 ?k11 ?a12 ?l12 ?c12 ?k12 ?a13 ?l13 ?c13 ?k13 ?a14 ?l14 ?c14 ?k14 ?a15 ?l15 ?c15 ?k15 ?a16 ?l16 ?c16 ?k16 ?a17 ?l17 ?c17 ?k17 ?a18 ?l18 ?c18 ?k18 ?a19 ?l19 ?c19 ?k19 ?a20 ?l20 ?c20 ?k20 ?a21 ?l21 ?c21 ?k21 ?a22 ?l22 ?c22 ?k22 ?a23 ?l23 ?c23 ?k23 ?a24 ?l24 ?c24 ?k24 ?a25 ?l25 ?c25 ?k25 ?a26 ?l26 ?c26 ?k26 ?a27 ?l27 ?c27 ?k27 ?x0 ?x1 ?x2 ?x3 ?x4 ?x5 ?x6 ?x7 ?x8 ?x9 ?lR ?z0 ?z1 ?z2 ?z3 ?z4 ?z5 ?z6 ?z7 ?z8 ?z9 ?z10 ?z11
    (case a0 => k_is); (case l0 => k_is); (case c0 => k_is); (case k0 => k_is); (case a1 => k_is); (case l1 => k_is)
    (case c1 => k_is); (case k1 => k_is); (case a2 => k_is); (case l2 => k_is); (case c2 => k_is); (case k2 => k_is)
    (case a3 => k_is); (case l3 => k_is); (case c3 => k_is); (case k3 => k_is); (case a4 => k_is); (case l4 => k_is)
    (case c4 => k_is); (case k4 => k_is); (case a5 => k_is); (case l5 => k_is); (case c5 => k_is); (case k5 => k_is)
    (case a6 => k_is); (case l6 => k_is); (case c6 => k_is); (case k6 => k_is); (case a7 => k_is); (case l7 => k_is)
    (case c7 => k_is); (case k7 => k_is); (case a8 => k_is); (case l8 => k_is); (case c8 => k_is); (case k8 => k_is)
    (case a9 => k_is); (case l9 => k_is); (case c9 => k_is); (case k9 => k_is); (case a10 => k_is); (case l10 => k_is)
    (case c10 => k_is); (case k10 => k_is); (case a11 => k_is); (case l11 => k_is); (case c11 => k_is); (case k11 => k_is)
    (case a12 => k_is); (case l12 => k_is); (case c12 => k_is); (case k12 => k_is); (case a13 => k_is); (case l13 => k_is)
    (case c13 => k_is); (case k13 => k_is); (case a14 => k_is); (case l14 => k_is); (case c14 => k_is); (case k14 => k_is)
    (case a15 => k_is); (case l15 => k_is); (case c15 => k_is); (case k15 => k_is); (case a16 => k_is); (case l16 => k_is)
    (case c16 => k_is); (case k16 => k_is); (case a17 => k_is); (case l17 => k_is); (case c17 => k_is); (case k17 => k_is)
    (case a18 => k_is); (case l18 => k_is); (case c18 => k_is); (case k18 => k_is); (case a19 => k_is); (case l19 => k_is)
    (case c19 => k_is); (case k19 => k_is); (case a20 => k_is); (case l20 => k_is); (case c20 => k_is); (case k20 => k_is)
    (case a21 => k_is); (case l21 => k_is); (case c21 => k_is); (case k21 => k_is); (case a22 => k_is); (case l22 => k_is)
    (case c22 => k_is); (case k22 => k_is); (case a23 => k_is); (case l23 => k_is); (case c23 => k_is); (case k23 => k_is)
    (case a24 => k_is); (case l24 => k_is); (case c24 => k_is); (case k24 => k_is); (case a25 => k_is); (case l25 => k_is)
    (case c25 => k_is); (case k25 => k_is); (case a26 => k_is); (case l26 => k_is); (case c26 => k_is); (case k26 => k_is)
    (case a27 => k_is); (case l27 => k_is); (case c27 => k_is); (case k27 => k_is); (case x0 => k_is); (case x1 => k_is)
    (case x2 => k_is); (case x3 => k_is); (case x4 => k_is); (case x5 => k_is); (case x6 => k_is); (case x7 => k_is)
    (case x8 => k_is); (case x9 => k_is); (case lR => k_is); (case z0 => k_is); (case z1 => k_is); (case z2 => k_is)
    (case z3 => k_is); (case z4 => k_is); (case z5 => k_is); (case z6 => k_is); (case z7 => k_is); (case z8 => k_is)
    (case z9 => k_is); (case z10 => k_is); (case z11 => k_is)
