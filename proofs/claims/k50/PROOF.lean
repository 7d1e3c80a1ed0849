import PyProof.Rows.All
import Wide.All
import OpenK.AllK
import Wide.FinOn
import HandS.ForMost
import HandS.ForExc
import HandS.Wide
import HandS.WideBits
import HandS.IsInst
import HandS.ExcIs
import HandS.Flow
import HandS.Style
import KE.KDictKeyed
import HandS.More
import HandS.ExcCtx
import HandS.HotCalls
import HandS.RevTup
import HandS.Rev
import HandS.TupSets
import KE.SortData
import KE.DataMinMax
import KE.KIsAll
import KE.KExcIs
import KE.KDictCopyH
import KE.KDictList
import PySem.Challenge.RW_curveseat_k50_a_line_or_a_common_point
set_option Elab.async false
set_option linter.all false
set_option maxRecDepth 100000
set_option maxHeartbeats 4000000
namespace C7
open PySem PySem.Spec PyProof.Rows L2

/-! ### data: tuples by value, other objects by address -/
inductive D where
  | non | bl (b : Bool) | int (i : Int) | str (x : Str) | ref (a : Addr) | ty (n : String) | tup (ds : List D) | cl (ds : List D) | fz (ds : List D)

abbrev Frag := PySem.W.Frag

/-- tuples and locked things stay -/
structure TS (H H' : Hp) : Prop where
  t : ∀ b xs, H b = some (.tup xs) → H' b = some (.tup xs)
  z : ∀ b o u, H b = some (.frz o u) → (∀ ks, u ≠ HO.dK ks) → H' b = some (.frz o u)
theorem TS.refl (H : Hp) : TS H H := ⟨fun _ _ h => h, fun _ _ _ h _ => h⟩
theorem TS.trans {H H1 H2 : Hp} (a : TS H H1) (b : TS H1 H2) : TS H H2 := ⟨fun x y h => b.t x y (a.t x y h), fun x y z h n => b.z x y z (a.z x y z h n) n⟩
theorem TS.new {H : Hp} {p : Addr} {o : HO} (h : H p = none) : TS H (upd H p o) :=
  ⟨fun a u e => by rw [upd_ne (ne_of_none e h)]; exact e, fun a x u e _ => by rw [upd_ne (ne_of_none e h)]; exact e⟩
theorem TS.put {H : Hp} {p : Addr} {o u0 : HO} (h : H p = some u0) (h1 : ∀ xs, u0 ≠ .tup xs) (h2 : ∀ x u, u0 ≠ .frz x u) : TS H (upd H p o) :=
  ⟨fun a u e => by
    have ne : a ≠ p := fun z => by subst z; rw [h] at e; exact h1 u (Option.some.inj e)
    rw [upd_ne ne]; exact e, fun a x u e _ => by
    have ne : a ≠ p := fun z => by subst z; rw [h] at e; exact h2 x u (Option.some.inj e)
    rw [upd_ne ne]; exact e⟩
theorem TS.sq {K : Frag} {H H' : Hp} {a : Addr} {xs : List V} (t : TS H H') (h : SqT K H a xs) : SqT K H' a xs := by
  rcases h with (h | ⟨o, h⟩) | h
  · exact .inl (.inl (t.t _ _ h))
  · exact .inl (.inr ⟨o, t.z _ _ _ h fun _ z => nomatch z⟩)
  · exact .inr h

/-- a list that nobody changes: the script -/
def SqC (K : Frag) (H : Hp) (a : Addr) (xs : List V) : Prop := (∃ o, H a = some (.frz o (.lst xs))) ∨
    ∃ (o : Obj) (its : Array Value) (n : Nat), K.lookup a = some o ∧ o.cls = .type "list" ∧ o.dict = none ∧ o.data = .seq its n ∧ its.size ≤ sizeLine ∧ Vals xs its.toList
theorem SqC.sq {K : Frag} {H : Hp} {a : Addr} {xs : List V} (h : SqC K H a xs) : SqL K H a xs := h.elim (fun h => .inl (.inr h)) .inr
theorem TS.sqc {K : Frag} {H H' : Hp} {a : Addr} {xs : List V} (t : TS H H') (h : SqC K H a xs) : SqC K H' a xs := h.elim (fun ⟨o, h⟩ => .inl ⟨o, t.z _ _ _ h fun _ z => nomatch z⟩) .inr
mutual
inductive Rp (K : Frag) (H : Hp) : V → D → Prop
  | non : Rp K H .non .non
  | bl (b : Bool) : Rp K H (.bl b) (.bl b)
  | int (i : Int) : Rp K H (.int i) (.int i)
  | str (x : Str) : Rp K H (.str x) (.str x)
  | ref (a : Addr) : Rp K H (.ref a) (.ref a)
  | ty (n : String) : Rp K H (.ty n) (.ty n)
  | tup {a : Addr} {vs : List V} {ds : List D} : SqT K H a vs → Rps K H vs ds → Rp K H (.ref a) (.tup ds)
  | cl {a : Addr} {vs : List V} {ds : List D} : SqC K H a vs → Rps K H vs ds → Rp K H (.ref a) (.cl ds)
  | fz {a : Addr} {o : Obj} {vs : List V} {ds : List D} : H a = some (.frz o (.lst vs)) → Rps K H vs ds → Rp K H (.ref a) (.fz ds)
inductive Rps (K : Frag) (H : Hp) : List V → List D → Prop
  | nil : Rps K H [] []
  | cons {v : V} {vs : List V} {d : D} {ds : List D} : Rp K H v d → Rps K H vs ds → Rps K H (v :: vs) (d :: ds)
end
mutual
theorem Rp.mono {K : Frag} {H H' : Hp} (t : TS H H') : ∀ {v : V} {d : D}, Rp K H v d → Rp K H' v d
  | _, _, .non => .non
  | _, _, .bl b => .bl b
  | _, _, .int i => .int i
  | _, _, .str x => .str x
  | _, _, .ref a => .ref a
  | _, _, .ty n => .ty n
  | _, _, .tup h hs => .tup (t.sq h) (Rps.mono t hs)
  | _, _, .cl h hs => .cl (t.sqc h) (Rps.mono t hs)
  | _, _, .fz h hs => .fz (t.z _ _ _ h fun _ z => nomatch z) (Rps.mono t hs)
theorem Rps.mono {K : Frag} {H H' : Hp} (t : TS H H') : ∀ {vs : List V} {ds : List D}, Rps K H vs ds → Rps K H' vs ds
  | _, _, .nil => .nil
  | _, _, .cons h hs => .cons (Rp.mono t h) (Rps.mono t hs)
end
section
variable {K : Frag} {H H' : Hp}
theorem Rp.int_of {v : V} {i : Int} (h : Rp K H v (.int i)) : v = .int i := by cases h; rfl
theorem Rp.bl_of {v : V} {b : Bool} (h : Rp K H v (.bl b)) : v = .bl b := by cases h; rfl
theorem Rp.str_of {v : V} {x : Str} (h : Rp K H v (.str x)) : v = .str x := by cases h; rfl
theorem Rp.non_of {v : V} (h : Rp K H v .non) : v = .non := by cases h; rfl
theorem Rp.ty_of {v : V} {n : String} (h : Rp K H v (.ty n)) : v = .ty n := by cases h; rfl
theorem Rp.ref_of {v : V} {a : Addr} (h : Rp K H v (.ref a)) : v = .ref a := by cases h; rfl
theorem Rp.tup_of {v : V} {ds : List D} (h : Rp K H v (.tup ds)) : ∃ a vs, v = .ref a ∧ SqT K H a vs ∧ Rps K H vs ds := by cases h with | tup a b => exact ⟨_, _, rfl, a, b⟩
theorem Rp.cl_of {v : V} {ds : List D} (h : Rp K H v (.cl ds)) : ∃ a vs, v = .ref a ∧ SqC K H a vs ∧ Rps K H vs ds := by cases h with | cl a b => exact ⟨_, _, rfl, a, b⟩
theorem Rp.fz_of {v : V} {ds : List D} (h : Rp K H v (.fz ds)) : ∃ a o vs, v = .ref a ∧ H a = some (.frz o (.lst vs)) ∧ Rps K H vs ds := by cases h with | fz a b => exact ⟨_, _, _, rfl, a, b⟩
theorem Rps.length : ∀ {vs : List V} {ds : List D}, Rps K H vs ds → vs.length = ds.length
  | _, _, .nil => rfl
  | _, _, .cons _ t => by rw [List.length_cons, List.length_cons, Rps.length t]
theorem Rps.get : ∀ {vs : List V} {ds : List D} {i : Nat} {d : D}, Rps K H vs ds → ds[i]? = some d → ∃ v, vs[i]? = some v ∧ Rp K H v d
  | _, _, _, _, .nil, e => by simp at e
  | _, _, 0, _, .cons r _, e => by simp at e; subst e; exact ⟨_, rfl, r⟩
  | _, _, i + 1, d, .cons _ t, e => by
    obtain ⟨u, h1, h2⟩ := Rps.get (i := i) (d := d) t (by simpa using e)
    exact ⟨u, by simpa using h1, h2⟩
theorem Rps.getV : ∀ {vs : List V} {ds : List D} {i : Nat} {v : V}, Rps K H vs ds → vs[i]? = some v → ∃ d, ds[i]? = some d ∧ Rp K H v d
  | _, _, _, _, .nil, e => by simp at e
  | _, _, 0, _, .cons r _, e => by simp at e; subst e; exact ⟨_, rfl, r⟩
  | _, _, i + 1, d, .cons _ t, e => by
    obtain ⟨u, h1, h2⟩ := Rps.getV (i := i) (v := d) t (by simpa using e)
    exact ⟨u, by simpa using h1, h2⟩
theorem Rps.append : ∀ {xs ys : List V} {us ws : List D}, Rps K H xs us → Rps K H ys ws → Rps K H (xs ++ ys) (us ++ ws)
  | _, _, _, _, .nil, s => s
  | _, _, _, _, .cons r t, s => .cons r (Rps.append t s)
theorem Rps.one {v : V} {d : D} (h : Rp K H v d) : Rps K H [v] [d] := .cons h .nil
theorem Rps.set {x : V} {u : D} (r : Rp K H x u) : ∀ {xs : List V} {us : List D} (i : Nat), Rps K H xs us → Rps K H (xs.set i x) (us.set i u)
  | _, _, _, .nil => .nil
  | _, _, 0, .cons _ t => .cons r t
  | _, _, i + 1, .cons q t => .cons q (Rps.set r i t)
theorem Rps.take : ∀ {xs : List V} {us : List D} (n : Nat), Rps K H xs us → Rps K H (xs.take n) (us.take n)
  | _, _, 0, _ => .nil
  | _, _, _ + 1, .nil => .nil
  | _, _, n + 1, .cons r t => .cons r (Rps.take n t)
theorem Rps.drop : ∀ {xs : List V} {us : List D} (n : Nat), Rps K H xs us → Rps K H (xs.drop n) (us.drop n)
  | _, _, 0, r => r
  | _, _, _ + 1, .nil => .nil
  | _, _, n + 1, .cons _ t => Rps.drop n t
theorem Rps.reverse : ∀ {xs : List V} {us : List D}, Rps K H xs us → Rps K H xs.reverse us.reverse
  | _, _, .nil => .nil
  | _, _, .cons r t => by rw [List.reverse_cons, List.reverse_cons]; exact (Rps.reverse t).append (.one r)
theorem Rps.dropLast {xs : List V} {us : List D} (h : Rps K H xs us) : Rps K H xs.dropLast us.dropLast := by
  rw [List.dropLast_eq_take, List.dropLast_eq_take, h.length]; exact h.take _
theorem Rps.ints : ∀ {vs : List V} {ns : List Int}, Rps K H vs (ns.map D.int) → vs = ns.map V.int
  | _, [], h => by cases h; rfl
  | _, n :: ns, h => by
    cases h with
    | cons a b => rw [a.int_of, Rps.ints b]; rfl
theorem Rps.bls : ∀ {vs : List V} {ns : List Bool}, Rps K H vs (ns.map D.bl) → vs = ns.map V.bl
  | _, [], h => by cases h; rfl
  | _, n :: ns, h => by
    cases h with
    | cons a b => rw [a.bl_of, Rps.bls b]; rfl
theorem Rps.strs : ∀ {vs : List V} {ns : List Str}, Rps K H vs (ns.map D.str) → vs = ns.map V.str
  | _, [], h => by cases h; rfl
  | _, n :: ns, h => by
    cases h with
    | cons a b => rw [a.str_of, Rps.strs b]; rfl
theorem Rps.atI {vs : List V} {ds : List D} {i : Int} {d : D} (h : Rps K H vs ds) (e : atI ds i = some d) : ∃ v, L2.atI vs i = some v ∧ Rp K H v d := by
  unfold L2.atI at e ⊢
  rw [h.length]
  cases q : ixN ds.length i with
  | none => rw [q] at e; cases e
  | some j =>
    rw [q] at e
    exact h.get e
end

/-! ### the abstract heap: lists, instances, dicts, by what they hold -/
/-- a dict whose keys are tuples, by its entries: the key, where it stands, the value -/
def DkO (P : Program) (w : World) (a : Addr) (xs : List (NestedKey × Addr × Value)) : HO := .ext fun h => (a == sysModules) = false ∧ ∃ o es ep, h.get? a = some o ∧ o.ExactDict ∧ o.data = .dict es ep ∧ es.toList = xs.map (entryOfKey (nestedKind P w)) ∧ (xs.map (·.1)).Nodup
mutual
def keyD : D → Option NestedKey
  | .int i => some (.num i)
  | .str x => some (.text x)
  | .tup ds => match keysD ds with
    | some ks => some (.tup ks)
    | none => none
  | _ => none
def keysD : List D → Option (List NestedKey)
  | [] => some []
  | d :: ds => match keyD d, keysD ds with
    | some k, some ks => some (k :: ks)
    | _, _ => none
end
inductive AO where
  | lst (ds : List D)
  | ins (C dx : Addr) (fs : List (Str × D))
  | dK (kvs : List (Key × D))
  | dD (P : Program) (w : World) (a : Addr) (kvs : List (NestedKey × D))
  | raw (u : HO)
  | dZ (o : Obj) (gs : List (Key × V)) (kvs : List (Key × D))
/-- an entry of such a dict -/
def EnD (K : Frag) (H : Hp) (x : NestedKey × Addr × Value) (q : NestedKey × D) : Prop := (∃ kd, Rp K H (.ref x.2.1) kd ∧ keyD kd = some x.1 ∧ x.1.depth ≤ 8) ∧ x.1 = q.1 ∧ ∃ v, RelV v x.2.2 ∧ Rp K H v q.2
def RelA (K : Frag) (H : Hp) : AO → HO → Prop
  | .lst ds, u => ∃ vs, u = .lst vs ∧ Rps K H vs ds
  | .ins C dx fs, u => ∃ gs, u = .ins C dx gs ∧ Paired (fun (p : Str × V) (q : Str × D) => p.1 = q.1 ∧ Rp K H p.2 q.2) gs fs
  | .dK kvs, u => ∃ gs, u = .dK gs ∧ Paired (fun (p : Key × V) (q : Key × D) => p.1 = q.1 ∧ Rp K H p.2 q.2) gs kvs
  | .dD P w a kvs, u => ∃ xs, u = DkO P w a xs ∧ Paired (EnD K H) xs kvs
  | .raw w, u => u = w
  | .dZ o gs kvs, u => u = .frz o (.dK gs) ∧ Paired (fun (p : Key × V) (q : Key × D) => p.1 = q.1 ∧ Rp K H p.2 q.2) gs kvs
theorem RelA.mono {K : Frag} {H H' : Hp} (t : TS H H') : ∀ {o : AO} {u : HO}, RelA K H o u → RelA K H' o u
  | .lst _, _, ⟨vs, e, h⟩ => ⟨vs, e, h.mono t⟩
  | .ins _ _ _, _, ⟨gs, e, h⟩ => ⟨gs, e, Paired.mapP h fun _ _ z => ⟨z.1, z.2.mono t⟩⟩
  | .dK _, _, ⟨gs, e, h⟩ => ⟨gs, e, Paired.mapP h fun _ _ z => ⟨z.1, z.2.mono t⟩⟩
  | .dD _ _ _ _, _, ⟨gs, e, h⟩ => ⟨gs, e, Paired.mapP h fun _ _ ⟨⟨kd, z1, z2⟩, z3, v, z4, z5⟩ => ⟨⟨kd, z1.mono t, z2⟩, z3, v, z4, z5.mono t⟩⟩
  | .raw _, _, e => e
  | .dZ _ _ _, _, ⟨e, h⟩ => ⟨e, Paired.mapP h fun _ _ z => ⟨z.1, z.2.mono t⟩⟩
abbrev AH := Addr → Option AO
def aupd (A : AH) (a : Addr) (o : AO) : AH := fun b => if b = a then some o else A b
theorem aupd_same {A : AH} {a : Addr} {o : AO} : aupd A a o a = some o := by unfold aupd; rw [if_pos rfl]
theorem aupd_ne {A : AH} {a b : Addr} {o : AO} (h : b ≠ a) : aupd A a o b = A b := by unfold aupd; rw [if_neg h]
theorem aupd_aupd {A : AH} {a : Addr} {o u : AO} : aupd (aupd A a o) a u = aupd A a u := by funext b; unfold aupd; split <;> rfl
theorem ane {A : AH} {a b : Addr} {o : AO} (h : A a = some o) (h' : A b = none) : a ≠ b := by intro e; subst e; rw [h] at h'; cases h'
/-- what stood stands -/
def Ext (A A' : AH) : Prop := ∀ a o, A a = some o → A' a = some o
theorem Ext.refl (A : AH) : Ext A A := fun _ _ h => h
theorem Ext.trans {A A1 A2 : AH} (a : Ext A A1) (b : Ext A1 A2) : Ext A A2 := fun x o h => b x o (a x o h)
theorem Ext.new {A : AH} {p : Addr} {o : AO} (h : A p = none) : Ext A (aupd A p o) := fun a u e => by rw [aupd_ne (ane e h)]; exact e
theorem Ext.put {A A' : AH} {p : Addr} {o : AO} (e : Ext A A') (h : A p = none) : Ext A (aupd A' p o) := fun a u q => by rw [aupd_ne (ane q h)]; exact e a u q
theorem Ext.upd {A A' : AH} (e : Ext A A') (p : Addr) (o : AO) : Ext (aupd A p o) (aupd A' p o) := fun a u q => by
  unfold aupd at q ⊢
  split
  · rename_i h; rw [if_pos h] at q; exact q
  · rename_i h; rw [if_neg h] at q; exact e a u q
theorem Ext.none {A A' : AH} {p : Addr} (e : Ext A A') (h : A' p = none) : A p = none := by
  cases q : A p with
  | none => rfl
  | some o => rw [e p o q] at h; cases h

def Rel (K : Frag) (A : AH) (H : Hp) : Prop := ∀ a o, A a = some o → ∃ u, H a = some u ∧ RelA K H o u
section
variable {K : Frag} {A A' : AH} {H H' : Hp}
theorem Rel.none (r : Rel K A H) {p : Addr} (h : H p = Option.none) : A p = Option.none := by
  cases q : A p with
  | none => rfl
  | some o => obtain ⟨u, e, _⟩ := r p o q; rw [h] at e; cases e
theorem Rel.sub (r : Rel K A' H) (e : Ext A A') : Rel K A H := fun a o h => r a o (e a o h)
theorem Rel.new (r : Rel K A H) {p : Addr} {o : AO} {u : HO} (h : H p = Option.none) (ra : RelA K (upd H p u) o u) : Rel K (aupd A p o) (upd H p u) := fun a o' q => by
  by_cases e : a = p
  · subst e
    rw [aupd_same] at q
    cases q
    exact ⟨u, upd_same, ra⟩
  · rw [aupd_ne e] at q
    obtain ⟨v, e1, e2⟩ := r a o' q
    exact ⟨v, by rw [upd_ne e]; exact e1, e2.mono (TS.new h)⟩
theorem Rel.newT (r : Rel K A H) {p : Addr} {vs : List V} (h : H p = Option.none) : Rel K A (upd H p (.tup vs)) := fun a o q => by
  obtain ⟨v, e1, e2⟩ := r a o q
  exact ⟨v, by rw [upd_ne (ne_of_none e1 h)]; exact e1, e2.mono (TS.new h)⟩
theorem Rel.newAny (r : Rel K A H) {p : Addr} {u : HO} (h : H p = Option.none) : Rel K A (upd H p u) := fun a o q => by
  obtain ⟨v, e1, e2⟩ := r a o q
  exact ⟨v, by rw [upd_ne (ne_of_none e1 h)]; exact e1, e2.mono (TS.new h)⟩
theorem Rel.put (r : Rel K A H) {p : Addr} {o : AO} {u u0 : HO} (h : H p = some u0) (h1 : ∀ xs, u0 ≠ .tup xs) (h2 : ∀ x u, u0 ≠ .frz x u) (ra : RelA K (upd H p u) o u) : Rel K (aupd A p o) (upd H p u) := fun a o' q => by
  by_cases e : a = p
  · subst e
    rw [aupd_same] at q
    cases q
    exact ⟨u, upd_same, ra⟩
  · rw [aupd_ne e] at q
    obtain ⟨v, e1, e2⟩ := r a o' q
    exact ⟨v, by rw [upd_ne e]; exact e1, e2.mono (TS.put h h1 h2)⟩
theorem Rel.lst (r : Rel K A H) {p : Addr} {ds : List D} (h : A p = some (.lst ds)) : ∃ vs, H p = some (.lst vs) ∧ Rps K H vs ds := by
  obtain ⟨u, e, vs, rfl, q⟩ := r p _ h
  exact ⟨vs, e, q⟩
theorem Rel.putL (r : Rel K A H) {p : Addr} {ds : List D} {vs vs' : List V} (h : H p = some (.lst vs)) (q : Rps K H vs' ds) : TS H (upd H p (.lst vs')) ∧ Rel K (aupd A p (.lst ds)) (upd H p (.lst vs')) := by
  have t : TS H (upd H p (.lst vs')) := TS.put h (fun _ z => nomatch z) (fun _ _ z => nomatch z)
  exact ⟨t, r.put h (fun _ z => nomatch z) (fun _ _ z => nomatch z) ⟨vs', rfl, q.mono t⟩⟩
theorem Rel.newL (r : Rel K A H) {p : Addr} {ds : List D} {vs : List V} (h : H p = Option.none) (q : Rps K H vs ds) : TS H (upd H p (.lst vs)) ∧ Rel K (aupd A p (.lst ds)) (upd H p (.lst vs)) :=
  ⟨TS.new h, r.new h ⟨vs, rfl, q.mono (TS.new h)⟩⟩
end
/-- d is a list of ds, to be read -/
def IsL (A : AH) (d : D) (ds : List D) : Prop := (∃ p, d = .ref p ∧ A p = some (.lst ds)) ∨ d = .cl ds ∨ d = .fz ds
theorem IsL.sq {K : Frag} {A : AH} {H : Hp} {d : D} {ds : List D} {v : V} (l : IsL A d ds) (rv : Rp K H v d) (r : Rel K A H) : ∃ a vs, v = .ref a ∧ SqL K H a vs ∧ Rps K H vs ds := by
  rcases l with ⟨p, rfl, l⟩ | rfl | rfl
  · obtain ⟨vs, e, q⟩ := r.lst l
    exact ⟨p, vs, rv.ref_of, .inl (.inl e), q⟩
  · obtain ⟨a, vs, rfl, h1, h2⟩ := rv.cl_of
    exact ⟨a, vs, rfl, h1.sq, h2⟩
  · obtain ⟨a, o, vs, rfl, h1, h2⟩ := rv.fz_of
    exact ⟨a, vs, rfl, .inl (.inr ⟨o, h1⟩), h2⟩
theorem IsL.ext {A A' : AH} {d : D} {ds : List D} (l : IsL A d ds) (e : Ext A A') : IsL A' d ds := l.elim (fun ⟨p, h, q⟩ => .inl ⟨p, h, e _ _ q⟩) .inr
theorem IsL.of {A : AH} {p : Addr} {ds : List D} (h : A p = some (.lst ds)) : IsL A (.ref p) ds := .inl ⟨p, rfl, h⟩
theorem IsL.cl {A : AH} {ds : List D} : IsL A (.cl ds) ds := .inr (.inl rfl)
theorem IsL.fz {A : AH} {ds : List D} : IsL A (.fz ds) ds := .inr (.inr rfl)

/-! ### the state -/
abbrev Ro := List (Option D)
structure Sr (K : Frag) (ρ : Ro) (A : AH) (σ : L2.St) (H : Hp) : Prop where
  len : ρ.length = σ.length
  val : ∀ (i : Nat) (d : D), ρ[i]? = some (some d) → ∃ v, σ[i]? = some (some v) ∧ Rp K H v d
  hp : Rel K A H
section
variable {K : Frag} {ρ : Ro} {A A' : AH} {σ : L2.St} {H H' : Hp}
theorem Sr.mono (s : Sr K ρ A σ H) (t : TS H H') (r : Rel K A' H') : Sr K ρ A' σ H' :=
  ⟨s.len, fun i d e => let ⟨v, a, b⟩ := s.val i d e; ⟨v, a, b.mono t⟩, r⟩
theorem Sr.set (s : Sr K ρ A σ H) {v : V} {d : D} (i : Nat) (r : Rp K H v d) : Sr K (ρ.set i (some d)) A (σ.set i (some v)) H := by
  refine ⟨by simp [s.len], fun j d' e => ?_, s.hp⟩
  by_cases h : j = i
  · subst h
    rw [List.getElem?_set] at e
    rw [if_pos rfl] at e
    split at e
    · rename_i hl
      cases e
      exact ⟨v, by rw [List.getElem?_set_self (by rw [← s.len]; exact hl)], r⟩
    · cases e
  · rw [List.getElem?_set_ne (Ne.symm h)] at e
    obtain ⟨w, a, b⟩ := s.val j d' e
    exact ⟨w, by rw [List.getElem?_set_ne (Ne.symm h)]; exact a, b⟩
theorem Sr.unset (s : Sr K ρ A σ H) (i : Nat) : Sr K (ρ.set i none) A (σ.set i none) H := by
  refine ⟨by simp [s.len], fun j d' e => ?_, s.hp⟩
  by_cases h : j = i
  · subst h
    rw [List.getElem?_set] at e
    rw [if_pos rfl] at e
    split at e
    · cases e
    · cases e
  · rw [List.getElem?_set_ne (Ne.symm h)] at e
    obtain ⟨w, a, b⟩ := s.val j d' e
    exact ⟨w, by rw [List.getElem?_set_ne (Ne.symm h)]; exact a, b⟩
theorem Sr.sub (s : Sr K ρ A' σ H) (e : Ext A A') : Sr K ρ A σ H := ⟨s.len, s.val, s.hp.sub e⟩
end
end C7
namespace C7
open PySem PySem.Spec PyProof.Rows L2

/-! ### the widest readings -/
section
variable {X : Cx}
structure TMp (X : Cx) (e : Expr) (σ : L2.St) (H : Hp) (Q : VK) : Prop where
  go : ∀ (pins : List (Addr × Obj)) (s : Shared), Inv X pins σ H s → wpAny (model X.prog X.w) X.A (eval e X.env) (EP X pins σ Q) X.xe s
def TM (X : Cx) (e : Expr) : TE := fun σ H Q => TMp X e σ H Q
theorem pe_tm (e : Expr) : PE X e (TM X e) := ⟨fun pins s _ _ _ I h => h.go pins s I⟩
theorem tm_of {e : Expr} {t : TE} (h : PE X e t) {σ : L2.St} {H : Hp} {Q : VK} (q : t σ H Q) : TM X e σ H Q := ⟨fun pins s I => h.run pins s σ H Q I q⟩
structure TMTp (X : Cx) (e : Expr) (σ : L2.St) (H : Hp) (Q : Bool → Hp → Prop) : Prop where
  go : ∀ (pins : List (Addr × Obj)) (s : Shared), Inv X pins σ H s → wpAny (model X.prog X.w) X.A (isTrue e X.env (eval e X.env)) (TP X pins σ Q) X.xe s
def TMT (X : Cx) (e : Expr) : TT := fun σ H Q => TMTp X e σ H Q
theorem pt_tm (e : Expr) : PT X e (TMT X e) := ⟨fun pins s _ _ _ I h => h.go pins s I⟩
theorem tmt_of {e : Expr} {t : TT} (h : PT X e t) {σ : L2.St} {H : Hp} {Q : Bool → Hp → Prop} (q : t σ H Q) : TMT X e σ H Q := ⟨fun pins s I => h.run pins s σ H Q I q⟩
structure TMWp (X : Cx) (e : Expr) (σ : L2.St) (H : Hp) (Q : Bool → Hp → Prop) : Prop where
  go : ∀ (whole : Sem Value) (pins : List (Addr × Obj)) (s : Shared), Inv X pins σ H s → wpAny (model X.prog X.w) X.A (isTrue e X.env whole) (TP X pins σ Q) X.xe s
def TMW (X : Cx) (e : Expr) : TT := fun σ H Q => TMWp X e σ H Q
theorem pw_tm (e : Expr) : PW X e (TMW X e) := ⟨fun whole pins s _ _ _ I h => h.go whole pins s I⟩
theorem tmw_of {e : Expr} {t : TT} (h : PW X e t) {σ : L2.St} {H : Hp} {Q : Bool → Hp → Prop} (q : t σ H Q) : TMW X e σ H Q := ⟨fun whole pins s I => h.run whole pins s σ H Q I q⟩
structure TMAp (X : Cx) (es : List Expr) (σ : L2.St) (H : Hp) (Q : List V → Hp → Prop) : Prop where
  go : ∀ (pos : Pos) (pins : List (Addr × Obj)) (s : Shared), Inv X pins σ H s → wpAny (model X.prog X.w) X.A (spliced (backTo pos (starEach es X.env))) (AP X pins σ Q) X.xe s
def TMA (X : Cx) (es : List Expr) : TA := fun σ H Q => TMAp X es σ H Q
theorem pa_tm (es : List Expr) : PA X es (TMA X es) := ⟨fun pos pins s _ _ _ I h => h.go pos pins s I⟩
theorem tma_of {es : List Expr} {t : TA} (h : PA X es t) {σ : L2.St} {H : Hp} {Q : List V → Hp → Prop} (q : t σ H Q) : TMA X es σ H Q := ⟨fun pos pins s I => h.run pos pins s σ H Q I q⟩
structure TM1p (X : Cx) (st : Stmt) (D : Ends) (σ : L2.St) (H : Hp) : Prop where
  go : ∀ (pins : List (Addr × Obj)) (s : Shared), Inv X pins σ H s → wpAny (model X.prog X.w) X.A (exec st X.env) (SP X pins D) X.xe s
def TM1 (X : Cx) (st : Stmt) : L2.TS := fun D σ H => TM1p X st D σ H
theorem ps_tm (st : Stmt) : PS X st (TM1 X st) := ⟨fun pins s _ _ _ I h => h.go pins s I⟩
theorem tm1_of {st : Stmt} {t : L2.TS} (h : PS X st t) {σ : L2.St} {H : Hp} {D : Ends} (q : t D σ H) : TM1 X st D σ H := ⟨fun pins s I => h.run pins s σ H D I q⟩
structure TMsp (X : Cx) (sts : List Stmt) (D : Ends) (σ : L2.St) (H : Hp) : Prop where
  go : ∀ (pins : List (Addr × Obj)) (s : Shared), Inv X pins σ H s → wpAny (model X.prog X.w) X.A (execs sts X.env) (SP X pins D) X.xe s
def TMs (X : Cx) (sts : List Stmt) : L2.TS := fun D σ H => TMsp X sts D σ H
theorem pss_tm (sts : List Stmt) : PSs X sts (TMs X sts) := ⟨fun pins s _ _ _ I h => h.go pins s I⟩
theorem tms_of {sts : List Stmt} {t : L2.TS} (h : PSs X sts t) {σ : L2.St} {H : Hp} {D : Ends} (q : t D σ H) : TMs X sts D σ H := ⟨fun pins s I => h.run pins s σ H D I q⟩
structure TMGp (X : Cx) (tg : Expr) (v : V) (σ : L2.St) (H : Hp) (Q : L2.St → Hp → Prop) : Prop where
  go : ∀ (pins : List (Addr × Obj)) (s : Shared) (u : Value), Inv X pins σ H s → RelV v u → wpAny (model X.prog X.w) X.A (assign tg X.env u) (fun _ s' => ∃ σ' H', Inv X pins σ' H' s' ∧ Q σ' H') X.xe s
def TMG (X : Cx) (tg : Expr) : TG := fun v σ H Q => TMGp X tg v σ H Q
theorem pg_tm (tg : Expr) : PG X tg (TMG X tg) := ⟨fun pins s _ _ _ u _ I r h => h.go pins s u I r⟩
theorem tmg_of {tg : Expr} {t : TG} (h : PG X tg t) {v : V} {σ : L2.St} {H : Hp} {Q : L2.St → Hp → Prop} (q : t v σ H Q) : TMG X tg v σ H Q := ⟨fun pins s u I r => h.run pins s σ H v u Q I r q⟩
structure TMGsp (X : Cx) (ts : List Expr) (vs : List V) (σ : L2.St) (H : Hp) (Q : L2.St → Hp → Prop) : Prop where
  go : ∀ (pins : List (Addr × Obj)) (s : Shared) (us : List Value), Inv X pins σ H s → Vals vs us → wpAny (model X.prog X.w) X.A (assignInOrder ((assignEach ts X.env).map (·.2)) us) (fun _ s' => ∃ σ' H', Inv X pins σ' H' s' ∧ Q σ' H') X.xe s
def TMGs (X : Cx) (ts : List Expr) : TGs := fun vs σ H Q => TMGsp X ts vs σ H Q
theorem pgs_tm (ts : List Expr) : PGs X ts (TMGs X ts) := ⟨fun pins s _ _ _ us _ I r h => h.go pins s us I r⟩
theorem tmgs_of {ts : List Expr} {t : TGs} (h : PGs X ts t) {vs : List V} {σ : L2.St} {H : Hp} {Q : L2.St → Hp → Prop} (q : t vs σ H Q) : TMGs X ts vs σ H Q := ⟨fun pins s us I r => h.run pins s σ H vs us Q I r q⟩
structure TMIp (X : Cx) (tg iter : Expr) (σ : L2.St) (H : Hp) (R : It → Hp → Prop) : Prop where
  go : ∀ (pins : List (Addr × Obj)) (s : Shared), Inv X pins σ H s → wpAny (model X.prog X.w) X.A (eval iter X.env) (fun v s1 => wpAny (model X.prog X.w) X.A (pyIter v) (PIE X pins σ tg R) X.xe s1) X.xe s
def TMI (X : Cx) (tg iter : Expr) : TI := fun σ H R => TMIp X tg iter σ H R
theorem pi_tm (tg iter : Expr) : PI X tg iter (TMI X tg iter) := ⟨fun pins s _ _ _ I h => h.go pins s I⟩
theorem tmi_of {tg iter : Expr} {t : TI} (h : PI X tg iter t) {σ : L2.St} {H : Hp} {R : It → Hp → Prop} (q : t σ H R) : TMI X tg iter σ H R := ⟨fun pins s I => h.run pins s σ H R I q⟩
def TMO (X : Cx) (e : Option Expr) (t : TO) : Prop := PO X e t
end

/-! ### the judgements -/
abbrev AK := D → AH → Prop
/-- e gives some d, leaving some A', of which k holds -/
def AE (X : Cx) (e : Expr) (ρ : Ro) (A : AH) (k : AK) : Prop := ∀ (σ : L2.St) (H : Hp), Sr X.K ρ A σ H → ∀ Q : VK, (∀ v H' d A', TS H H' → Rp X.K H' v d → Rel X.K A' H' → k d A' → Q v H') → TM X e σ H Q
/-- e gives d, and nothing that is known changes -/
def AV (X : Cx) (e : Expr) (ρ : Ro) (A : AH) (d : D) : Prop := ∀ (σ : L2.St) (H : Hp), Sr X.K ρ A σ H → ∀ Q : VK, (∀ v H', TS H H' → Rp X.K H' v d → Rel X.K A H' → Q v H') → TM X e σ H Q
def AEs (X : Cx) (es : List Expr) (ρ : Ro) (A : AH) (k : List D → AH → Prop) : Prop := ∀ (σ : L2.St) (H : Hp), Sr X.K ρ A σ H → ∀ Q : List V → Hp → Prop, (∀ vs H' ds A', TS H H' → Rps X.K H' vs ds → Rel X.K A' H' → k ds A' → Q vs H') → TMA X es σ H Q
def AVs (X : Cx) (es : List Expr) (ρ : Ro) (A : AH) (ds : List D) : Prop := ∀ (σ : L2.St) (H : Hp), Sr X.K ρ A σ H → ∀ Q : List V → Hp → Prop, (∀ vs H', TS H H' → Rps X.K H' vs ds → Rel X.K A H' → Q vs H') → TMA X es σ H Q
/-- a test -/
def AET (X : Cx) (e : Expr) (ρ : Ro) (A : AH) (k : Bool → AH → Prop) : Prop := ∀ (σ : L2.St) (H : Hp), Sr X.K ρ A σ H → ∀ Q : Bool → Hp → Prop, (∀ b H' A', TS H H' → Rel X.K A' H' → k b A' → Q b H') → TMT X e σ H Q
def AT (X : Cx) (e : Expr) (ρ : Ro) (A : AH) (b : Bool) : Prop := ∀ (σ : L2.St) (H : Hp), Sr X.K ρ A σ H → ∀ Q : Bool → Hp → Prop, (∀ H', TS H H' → Rel X.K A H' → Q b H') → TMT X e σ H Q
def AEW (X : Cx) (e : Expr) (ρ : Ro) (A : AH) (k : Bool → AH → Prop) : Prop := ∀ (σ : L2.St) (H : Hp), Sr X.K ρ A σ H → ∀ Q : Bool → Hp → Prop, (∀ b H' A', TS H H' → Rel X.K A' H' → k b A' → Q b H') → TMW X e σ H Q
def AW (X : Cx) (e : Expr) (ρ : Ro) (A : AH) (b : Bool) : Prop := ∀ (σ : L2.St) (H : Hp), Sr X.K ρ A σ H → ∀ Q : Bool → Hp → Prop, (∀ H', TS H H' → Rel X.K A H' → Q b H') → TMW X e σ H Q
/-- a target: the slots is may change -/
def AG (X : Cx) (tg : Expr) (is : List Nat) (ρ : Ro) (d : D) (ρ' : Ro) : Prop := ∀ (v : V) (σ : L2.St) (H : Hp) (A : AH), Sr X.K ρ A σ H → Rp X.K H v d → ∀ Q : L2.St → Hp → Prop,
  (∀ σ', σ'.length = σ.length → (∀ j : Nat, j ∉ is → σ'[j]? = σ[j]?) → Sr X.K ρ' A σ' H → Q σ' H) → TMG X tg v σ H Q
def AGs (X : Cx) (ts : List Expr) (is : List Nat) (ρ : Ro) (ds : List D) (ρ' : Ro) : Prop := ∀ (vs : List V) (σ : L2.St) (H : Hp) (A : AH), Sr X.K ρ A σ H → Rps X.K H vs ds → ∀ Q : L2.St → Hp → Prop,
  (∀ σ', σ'.length = σ.length → (∀ j : Nat, j ∉ is → σ'[j]? = σ[j]?) → Sr X.K ρ' A σ' H → Q σ' H) → TMGs X ts vs σ H Q
/-- what a walk yields, while G holds -/
structure Wk (K : Frag) (H0 : Hp) (J : It) (G : AH → Prop) (n : Nat) (f : Nat → D) : Prop where
  go : ∀ (i : Nat) (H : Hp) (A : AH), i < n → TS H0 H → Rel K A H → G A → J.go i H
  yl : ∀ (i : Nat) (H : Hp) (A : AH) (x : V) (H' : Hp), i < n → TS H0 H → Rel K A H → G A → J.yld i H x H' → TS H H' ∧ Rel K A H' ∧ Rp K H' x (f i)
  st : ∀ (H : Hp) (A : AH), TS H0 H → Rel K A H → G A → J.stop n H
def AI (X : Cx) (tg iter : Expr) (ρ : Ro) (A : AH) (k : AH → (AH → Prop) → Nat → (Nat → D) → Prop) : Prop := ∀ (σ : L2.St) (H : Hp), Sr X.K ρ A σ H → ∀ R : It → Hp → Prop,
  (∀ J H' A' G n f, TS H H' → Rel X.K A' H' → Wk X.K H' J G n f → k A' G n f → R J H') → TMI X tg iter σ H R
structure AEnds where
  nx : Ro → AH → Prop
  rt : D → AH → Prop
  bk : Ro → AH → Prop := fun _ _ => False
  ct : Ro → AH → Prop := fun _ _ => False
  xc : Value → Ro → AH → Prop := fun _ _ _ => False
structure EOk (K : Frag) (W : WX) (H : Hp) (E : AEnds) (D : Ends) : Prop where
  nx : ∀ ρ' A' σ' H', TS H H' → Sr K ρ' A' σ' H' → E.nx ρ' A' → D.nx σ' H'
  rt : ∀ d A' v H', TS H H' → Rel K A' H' → Rp K H' v d → E.rt d A' → D.rt v H'
  bk : ∀ ρ' A' σ' H', TS H H' → Sr K ρ' A' σ' H' → E.bk ρ' A' → D.bk σ' H'
  ct : ∀ ρ' A' σ' H', TS H H' → Sr K ρ' A' σ' H' → E.ct ρ' A' → D.ct σ' H'
  xc : ∀ c ρ' A' σ' H', TS H H' → Sr K ρ' A' σ' H' → E.xc c ρ' A' → W c none σ' H'
theorem EOk.mono {K : Frag} {W : WX} {H H' : Hp} {E : AEnds} {D : Ends} (e : EOk K W H E D) (t : TS H H') : EOk K W H' E D :=
  ⟨fun _ _ _ _ a => e.nx _ _ _ _ (t.trans a), fun _ _ _ _ a => e.rt _ _ _ _ (t.trans a), fun _ _ _ _ a => e.bk _ _ _ _ (t.trans a), fun _ _ _ _ a => e.ct _ _ _ _ (t.trans a), fun _ _ _ _ _ a => e.xc _ _ _ _ _ (t.trans a)⟩
def AS (X : Cx) (W : WX) (sts : List Stmt) (ρ : Ro) (A : AH) (E : AEnds) : Prop := ∀ (σ : L2.St) (H : Hp), Sr X.K ρ A σ H → ∀ D : Ends, EOk X.K W H E D → TMs X sts D σ H
def A1 (X : Cx) (W : WX) (st : Stmt) (ρ : Ro) (A : AH) (E : AEnds) : Prop := ∀ (σ : L2.St) (H : Hp), Sr X.K ρ A σ H → ∀ D : Ends, EOk X.K W H E D → TM1 X st D σ H

section
variable {X : Cx} {W : WX} {ρ : Ro} {A : AH} {e a b c : Expr} {es : List Expr} {pos : Pos} {d x y : D} {k : AK}
theorem AV.ae (h : AV X e ρ A d) (q : k d A) : AE X e ρ A k := fun σ H s Q hq => h σ H s Q fun v H' t r l => hq v H' d A t r l q
theorem AE.av (h : AE X e ρ A fun d' A' => d' = d ∧ Ext A A') : AV X e ρ A d := fun σ H s Q hq => h σ H s Q fun v H' d' A' t r l q => hq v H' t (by rw [← q.1]; exact r) (l.sub q.2)
theorem AE.mono {k' : AK} (h : AE X e ρ A k) (m : ∀ d A', k d A' → k' d A') : AE X e ρ A k' := fun σ H s Q hq => h σ H s Q fun v H' d A' t r l q => hq v H' d A' t r l (m d A' q)
theorem AE.weak (h : AE X e ρ A fun d A' => ∃ A'', Ext A'' A' ∧ k d A'') : AE X e ρ A k := fun σ H s Q hq => h σ H s Q fun v H' d A' t r l ⟨A'', x, q⟩ => hq v H' d A'' t r (l.sub x) q
theorem AVs.aes {ds : List D} {k : List D → AH → Prop} (h : AVs X es ρ A ds) (q : k ds A) : AEs X es ρ A k := fun σ H s Q hq => h σ H s Q fun v H' t r l => hq v H' ds A t r l q
theorem AT.aet {b : Bool} {k : Bool → AH → Prop} (h : AT X e ρ A b) (q : k b A) : AET X e ρ A k := fun σ H s Q hq => h σ H s Q fun H' t l => hq b H' A t l q
theorem AET.at' {b : Bool} (h : AET X e ρ A fun b' A' => b' = b ∧ Ext A A') : AT X e ρ A b := fun σ H s Q hq => h σ H s Q fun b' H' A' t l q => by
  rw [q.1]; exact hq H' t (l.sub q.2)
theorem AV.is {d' : D} (h : AV X e ρ A d) (q : d = d') : AV X e ρ A d' := q ▸ h
theorem AT.is {b b' : Bool} (h : AT X e ρ A b) (q : b = b') : AT X e ρ A b' := q ▸ h

/-! ### names, constants -/
theorem av_var {i : Nat} {n : Str} (hN : X.N[i]? = some n) (hv : Vis X.env.scope n) (h : ρ[i]? = some (some d)) (hd : (n == ("__debug__" : Str)) = false := by decide) (hcd : (n == ("__classdict__" : Str)) = false := by decide) : AV X (.Name n pos) ρ A d :=
  fun σ H s Q q => by
    obtain ⟨v, e, r⟩ := s.val i d h
    exact tm_of (pe_var hN hv hd hcd) ⟨v, e, q v H (TS.refl H) r s.hp⟩
theorem av_int {i : Int} {j : Nat} : AV X (.Constant (.int i) j pos) ρ A (.int i) := fun σ H s Q q => tm_of pe_int (q _ H (TS.refl H) (.int i) s.hp)
theorem av_bl {i : Bool} {j : Nat} : AV X (.Constant (.bool i) j pos) ρ A (.bl i) := fun σ H s Q q => tm_of pe_bl (q _ H (TS.refl H) (.bl i) s.hp)
theorem av_non {j : Nat} : AV X (.Constant .none j pos) ρ A .non := fun σ H s Q q => tm_of pe_non (q _ H (TS.refl H) .non s.hp)
theorem av_str {i : Str} {j : Nat} : AV X (.Constant (.str i) j pos) ρ A (.str i) := fun σ H s Q q => tm_of pe_str (q _ H (TS.refl H) (.str i) s.hp)
/-- a module's name -/
theorem av_glob {n : Str} {u : Value} {v : V} (hg : Gl X n) (hm : X.mg n = some u) (r : RelV v u) (h : ∀ H, Rp X.K H v d) (hd : (n == ("__debug__" : Str)) = false := by decide) : AV X (.Name n pos) ρ A d :=
  fun σ H s Q q => tm_of (pe_glob hg hm r hd) (q v H (TS.refl H) (h H) s.hp)
theorem av_bltn {n : Str} {u : Value} {v : V} (hg : Gl X n) (hm : X.mg n = none) (hv : bootBuiltins n = some u) (r : RelV v u) (h : ∀ H, Rp X.K H v d) (hn : n ≠ "__name__" := by decide) (hd : (n == ("__debug__" : Str)) = false := by decide) : AV X (.Name n pos) ρ A d :=
  fun σ H s Q q => tm_of (pe_bltn hg hm hv r hn hd) (q v H (TS.refl H) (h H) s.hp)

/-! ### operators -/
theorem ae_op {op : Operator} {r : R2} (ho : OpR X (binaryOp op) r)
    (h : AE X a ρ A fun x A1 => AE X b ρ A1 fun y A2 => ∀ v u H, Rp X.K H v x → Rp X.K H u y → Rel X.K A2 H → ∀ Q : VK, (∀ z H' d A', TS H H' → Rp X.K H' z d → Rel X.K A' H' → k d A' → Q z H') → r v u H Q) : AE X (.BinOp a op b pos) ρ A k :=
  fun σ H s Q q => tm_of (pe_op ho (pe_tm a) (pe_tm b)) (h σ H s _ fun v H1 x A1 t1 r1 l1 h1 => h1 σ H1 (s.mono t1 l1) _ fun u H2 y A2 t2 r2 l2 h2 =>
    h2 v u H2 (r1.mono t2) r2 l2 Q fun z H' d A' t3 r3 l3 q3 => q z H' d A' ((t1.trans t2).trans t3) r3 l3 q3)
theorem av_op {op : Operator} {r : R2} (ho : OpR X (binaryOp op) r) (ha : AV X a ρ A x) (hb : AV X b ρ A y)
    (h : ∀ v u H, Rp X.K H v x → Rp X.K H u y → Rel X.K A H → ∀ Q : VK, (∀ z H', TS H H' → Rp X.K H' z d → Rel X.K A H' → Q z H') → r v u H Q) : AV X (.BinOp a op b pos) ρ A d :=
  fun σ H s Q q => tm_of (pe_op ho (pe_tm a) (pe_tm b)) (ha σ H s _ fun v H1 t1 r1 l1 => hb σ H1 (s.mono t1 l1) _ fun u H2 t2 r2 l2 =>
    h v u H2 (r1.mono t2) r2 l2 Q fun z H' t3 r3 l3 => q z H' ((t1.trans t2).trans t3) r3 l3)
theorem av_opI0 {op : Operator} {g : Int → Int → Int} {i j : Int} (ho : OpR X (binaryOp op) (rI0 fun i j => .int (g i j))) (ha : AV X a ρ A (.int i)) (hb : AV X b ρ A (.int j)) : AV X (.BinOp a op b pos) ρ A (.int (g i j)) :=
  av_op ho ha hb fun _ _ H r1 r2 l Q q => by
    rw [r1.int_of, r2.int_of]
    exact ⟨i, j, rfl, rfl, q _ H (TS.refl H) (.int _) l⟩
theorem av_opI {op : Operator} {C : Int → Int → Prop} {g : Int → Int → Int} {i j : Int} (ho : OpR X (binaryOp op) (rI C fun i j => .int (g i j))) (ha : AV X a ρ A (.int i)) (hb : AV X b ρ A (.int j)) (hc : C i j) : AV X (.BinOp a op b pos) ρ A (.int (g i j)) :=
  av_op ho ha hb fun _ _ H r1 r2 l Q q => by
    rw [r1.int_of, r2.int_of]
    exact ⟨i, j, rfl, rfl, hc, q _ H (TS.refl H) (.int _) l⟩
theorem av_add {i j : Int} (ha : AV X a ρ A (.int i)) (hb : AV X b ρ A (.int j)) : AV X (.BinOp a .Add b pos) ρ A (.int (i + j)) := av_opI0 (g := fun i j => i + j) op_add ha hb
theorem av_sub {i j : Int} (ha : AV X a ρ A (.int i)) (hb : AV X b ρ A (.int j)) : AV X (.BinOp a .Sub b pos) ρ A (.int (i - j)) := av_opI0 (g := fun i j => i - j) op_sub ha hb
theorem av_mul {i j : Int} (ha : AV X a ρ A (.int i)) (hb : AV X b ρ A (.int j)) (hc : CMulX i j) : AV X (.BinOp a .Mult b pos) ρ A (.int (i * j)) := av_opI (g := fun i j => i * j) op_mulX ha hb hc
theorem av_div {i j : Int} (ha : AV X a ρ A (.int i)) (hb : AV X b ρ A (.int j)) (hc : CDivW i j) : AV X (.BinOp a .FloorDiv b pos) ρ A (.int (i / j)) := av_opI (g := fun i j => i / j) op_fdivW ha hb hc
theorem av_mod {i j : Int} (ha : AV X a ρ A (.int i)) (hb : AV X b ρ A (.int j)) (hc : 0 < j) : AV X (.BinOp a .Mod b pos) ρ A (.int (i % j)) := av_opI (C := fun _ j => 0 < j) (g := fun i j => i % j) op_mod ha hb hc
theorem av_pow {i j : Int} (ha : AV X a ρ A (.int i)) (hb : AV X b ρ A (.int j)) (hc : CPow i j) : AV X (.BinOp a .Pow b pos) ρ A (.int (i ^ j.toNat)) := av_opI (g := fun i j => i ^ j.toNat) op_pow ha hb hc
theorem av_shl {i j : Int} (ha : AV X a ρ A (.int i)) (hb : AV X b ρ A (.int j)) (hc : CPow i j) : AV X (.BinOp a .LShift b pos) ρ A (.int (i * 2 ^ j.toNat)) := av_opI (g := fun i j => i * 2 ^ j.toNat) op_shl ha hb hc
theorem av_neg {i : Int} (ha : AV X a ρ A (.int i)) : AV X (.UnaryOp .USub a pos) ρ A (.int (-i)) := fun σ H s Q q => tm_of (pe_un un_neg (pe_tm a)) (ha σ H s _ fun v H1 t1 r1 l1 => by
  rw [r1.int_of]
  exact ⟨i, rfl, q _ H1 t1 (.int _) l1⟩)

/-! ### comparisons -/
theorem av_cmp {op : CmpOp} {r : R2} (ho : OpR X (compareOp op) r) (hm : behindInMarks op b = false) (ha : AV X a ρ A x) (hb : AV X b ρ A y) (h : ∀ v u H, Rp X.K H v x → Rp X.K H u y → Rel X.K A H → ∀ Q : VK, (∀ z H', TS H H' → Rp X.K H' z d → Rel X.K A H' → Q z H') → r v u H Q) :
    AV X (.Compare a [op] [b] pos) ρ A d :=
  fun σ H s Q q => tm_of (pe_cmpR ho (pe_tm a) (pe_tm b) hm) (ha σ H s _ fun v H1 t1 r1 l1 => hb σ H1 (s.mono t1 l1) _ fun u H2 t2 r2 l2 =>
    h v u H2 (r1.mono t2) r2 l2 Q fun z H' t3 r3 l3 => q z H' ((t1.trans t2).trans t3) r3 l3)
theorem at_cmp {op : CmpOp} {r : R2} {bb : Bool} (ho : OpR X (compareOp op) r) (hm : behindInMarks op b = false) (ha : AV X a ρ A x) (hb : AV X b ρ A y) (h : ∀ v u H, Rp X.K H v x → Rp X.K H u y → Rel X.K A H → ∀ Q : VK, (∀ H', TS H H' → Rel X.K A H' → Q (.bl bb) H') → r v u H Q) :
    AT X (.Compare a [op] [b] pos) ρ A bb :=
  fun σ H s Q q => tmt_of (pt_cmpR ho (pe_tm a) (pe_tm b) hm) (ha σ H s _ fun v H1 t1 r1 l1 => hb σ H1 (s.mono t1 l1) _ fun u H2 t2 r2 l2 =>
    h v u H2 (r1.mono t2) r2 l2 _ fun H' t3 l3 => ⟨bb, rfl, q H' ((t1.trans t2).trans t3) l3⟩)
theorem aet_cmp {op : CmpOp} {r : R2} {kt : Bool → AH → Prop} (ho : OpR X (compareOp op) r) (hm : behindInMarks op b = false)
    (h : AE X a ρ A fun x A1 => AE X b ρ A1 fun y A2 => ∀ v u H, Rp X.K H v x → Rp X.K H u y → Rel X.K A2 H → ∀ Q : VK, (∀ bb H' A', TS H H' → Rel X.K A' H' → kt bb A' → Q (.bl bb) H') → r v u H Q) : AET X (.Compare a [op] [b] pos) ρ A kt :=
  fun σ H s Q q => tmt_of (pt_cmpR ho (pe_tm a) (pe_tm b) hm) (h σ H s _ fun v H1 x A1 t1 r1 l1 h1 => h1 σ H1 (s.mono t1 l1) _ fun u H2 y A2 t2 r2 l2 h2 =>
    h2 v u H2 (r1.mono t2) r2 l2 _ fun bb H' A' t3 l3 q3 => ⟨bb, rfl, q bb H' A' ((t1.trans t2).trans t3) l3 q3⟩)
section
variable {i j : Int}
theorem cmpI {r : R2} {g : Int → Int → Bool} (e : r = rI0 fun i j => .bl (g i j)) : ∀ v u H, Rp X.K H v (.int i) → Rp X.K H u (.int j) → Rel X.K A H → ∀ Q : VK, (∀ H', TS H H' → Rel X.K A H' → Q (.bl (g i j)) H') → r v u H Q := fun v u H r1 r2 l Q q => by
  rw [e, r1.int_of, r2.int_of]
  exact ⟨i, j, rfl, rfl, q H (TS.refl H) l⟩
theorem at_lt (ha : AV X a ρ A (.int i)) (hb : AV X b ρ A (.int j)) : AT X (.Compare a [.Lt] [b] pos) ρ A (decide (i < j)) := at_cmp op_lt (nomark _) ha hb (cmpI (g := fun i j => decide (i < j)) rfl)
theorem at_le (ha : AV X a ρ A (.int i)) (hb : AV X b ρ A (.int j)) : AT X (.Compare a [.LtE] [b] pos) ρ A (decide (i ≤ j)) := at_cmp op_le (nomark _) ha hb (cmpI (g := fun i j => decide (i ≤ j)) rfl)
theorem at_gt (ha : AV X a ρ A (.int i)) (hb : AV X b ρ A (.int j)) : AT X (.Compare a [.Gt] [b] pos) ρ A (decide (j < i)) := at_cmp op_gt (nomark _) ha hb (cmpI (g := fun i j => decide (j < i)) rfl)
theorem at_ge (ha : AV X a ρ A (.int i)) (hb : AV X b ρ A (.int j)) : AT X (.Compare a [.GtE] [b] pos) ρ A (decide (j ≤ i)) := at_cmp op_ge (nomark _) ha hb (cmpI (g := fun i j => decide (j ≤ i)) rfl)
theorem dec_V {i j : Int} : decide (V.int i = V.int j) = decide (i = j) := by
  by_cases h : i = j
  · subst h; simp
  · rw [decide_eq_false h, decide_eq_false fun e => h (V.int.inj e)]
theorem cmpEqI : ∀ v u H, Rp X.K H v (.int i) → Rp X.K H u (.int j) → Rel X.K A H → ∀ Q : VK, (∀ H', TS H H' → Rel X.K A H' → Q (.bl (decide (i = j))) H') → rEq v u H Q := fun v u H r1 r2 l Q q => by
  rw [r1.int_of, r2.int_of]
  refine ⟨rfl, ?_⟩
  rw [dec_V]
  exact q H (TS.refl H) l
theorem cmpNeI : ∀ v u H, Rp X.K H v (.int i) → Rp X.K H u (.int j) → Rel X.K A H → ∀ Q : VK, (∀ H', TS H H' → Rel X.K A H' → Q (.bl (!decide (i = j))) H') → rNe v u H Q := fun v u H r1 r2 l Q q => by
  rw [r1.int_of, r2.int_of]
  refine ⟨rfl, ?_⟩
  rw [dec_V]
  exact q H (TS.refl H) l
theorem at_eq (ha : AV X a ρ A (.int i)) (hb : AV X b ρ A (.int j)) : AT X (.Compare a [.Eq] [b] pos) ρ A (decide (i = j)) := at_cmp op_eq (nomark _) ha hb cmpEqI
theorem at_ne (ha : AV X a ρ A (.int i)) (hb : AV X b ρ A (.int j)) : AT X (.Compare a [.NotEq] [b] pos) ρ A (!decide (i = j)) := at_cmp op_ne (nomark _) ha hb cmpNeI
theorem blz {bb : Bool} {Q : VK} {H : Hp} (q : ∀ z H', TS H H' → Rp X.K H' z (.bl bb) → Rel X.K A H' → Q z H') : ∀ H', TS H H' → Rel X.K A H' → Q (.bl bb) H' := fun H' t l => q _ H' t (.bl bb) l
theorem av_lt (ha : AV X a ρ A (.int i)) (hb : AV X b ρ A (.int j)) : AV X (.Compare a [.Lt] [b] pos) ρ A (.bl (decide (i < j))) := av_cmp op_lt (nomark _) ha hb fun v u H r1 r2 l Q q => cmpI (g := fun i j => decide (i < j)) rfl v u H r1 r2 l Q (blz q)
theorem av_le (ha : AV X a ρ A (.int i)) (hb : AV X b ρ A (.int j)) : AV X (.Compare a [.LtE] [b] pos) ρ A (.bl (decide (i ≤ j))) := av_cmp op_le (nomark _) ha hb fun v u H r1 r2 l Q q => cmpI (g := fun i j => decide (i ≤ j)) rfl v u H r1 r2 l Q (blz q)
theorem av_gt (ha : AV X a ρ A (.int i)) (hb : AV X b ρ A (.int j)) : AV X (.Compare a [.Gt] [b] pos) ρ A (.bl (decide (j < i))) := av_cmp op_gt (nomark _) ha hb fun v u H r1 r2 l Q q => cmpI (g := fun i j => decide (j < i)) rfl v u H r1 r2 l Q (blz q)
theorem av_ge (ha : AV X a ρ A (.int i)) (hb : AV X b ρ A (.int j)) : AV X (.Compare a [.GtE] [b] pos) ρ A (.bl (decide (j ≤ i))) := av_cmp op_ge (nomark _) ha hb fun v u H r1 r2 l Q q => cmpI (g := fun i j => decide (j ≤ i)) rfl v u H r1 r2 l Q (blz q)
theorem av_eq (ha : AV X a ρ A (.int i)) (hb : AV X b ρ A (.int j)) : AV X (.Compare a [.Eq] [b] pos) ρ A (.bl (decide (i = j))) := av_cmp op_eq (nomark _) ha hb fun v u H r1 r2 l Q q => cmpEqI v u H r1 r2 l Q (blz q)
theorem av_ne (ha : AV X a ρ A (.int i)) (hb : AV X b ρ A (.int j)) : AV X (.Compare a [.NotEq] [b] pos) ρ A (.bl (!decide (i = j))) := av_cmp op_ne (nomark _) ha hb fun v u H r1 r2 l Q q => cmpNeI v u H r1 r2 l Q (blz q)
end

/-! ### tests -/
theorem at_val {bb : Bool} (h : AV X e ρ A (.bl bb)) (he : ∀ whole, isTrue e X.env whole = (do let v ← whole; standAt e.pos; holding [v] (truthy v)) := by intro _; rfl) : AT X e ρ A bb :=
  fun σ H s Q q => tmt_of (pt_val (pe_tm e) he) (h σ H s _ fun v H1 t1 r1 l1 => ⟨bb, r1.bl_of, q H1 t1 l1⟩)
theorem aet_val {kt : Bool → AH → Prop} (h : AE X e ρ A fun d A' => ∃ bb, d = .bl bb ∧ kt bb A') (he : ∀ whole, isTrue e X.env whole = (do let v ← whole; standAt e.pos; holding [v] (truthy v)) := by intro _; rfl) : AET X e ρ A kt :=
  fun σ H s Q q => tmt_of (pt_val (pe_tm e) he) (h σ H s _ fun v H1 d A' t1 r1 l1 ⟨bb, eb, kb⟩ => ⟨bb, by rw [eb] at r1; exact r1.bl_of, q bb H1 A' t1 l1 kb⟩)
theorem at_not {bb : Bool} (h : AT X e ρ A bb) : AT X (.UnaryOp .Not e pos) ρ A (!bb) := fun σ H s Q q => tmt_of (pt_not (pt_tm e)) (h σ H s _ fun H1 t1 l1 => q H1 t1 l1)
theorem aet_not {kt : Bool → AH → Prop} (h : AET X e ρ A fun b A' => kt (!b) A') : AET X (.UnaryOp .Not e pos) ρ A kt := fun σ H s Q q => tmt_of (pt_not (pt_tm e)) (h σ H s _ fun b H1 A' t1 l1 kb => q _ H1 A' t1 l1 kb)
theorem AW.at {bb : Bool} (h : AW X e ρ A bb) : AT X e ρ A bb := fun σ H s Q q => tmt_of (pw_tm e).pt (h σ H s Q q)
theorem AEW.aet {kt : Bool → AH → Prop} (h : AEW X e ρ A kt) : AET X e ρ A kt := fun σ H s Q q => tmt_of (pw_tm e).pt (h σ H s Q q)
variable {b1 b2 : Bool} {rest : List Expr} {kt : Bool → AH → Prop}
theorem aw_and1 (h : AT X a ρ A b1) : AW X (.BoolOp .And [a] pos) ρ A b1 := fun σ H s Q q => tmw_of (pw_and1 (pt_tm a)) (h σ H s Q q)
theorem aw_or1 (h : AT X a ρ A b1) : AW X (.BoolOp .Or [a] pos) ρ A b1 := fun σ H s Q q => tmw_of (pw_or1 (pt_tm a)) (h σ H s Q q)
theorem aw_and (h : AT X a ρ A b1) (h2 : b1 = true → AW X (.BoolOp .And (b :: rest) pos) ρ A b2) : AW X (.BoolOp .And (a :: b :: rest) pos) ρ A (b1 && b2) := fun σ H s Q q =>
  tmw_of (pw_and (pt_tm a) (pw_tm _)) (h σ H s _ fun H1 t1 l1 => by
    cases b1 with
    | true => exact iteT (h2 rfl σ H1 (s.mono t1 l1) Q fun H2 t2 l2 => q H2 (t1.trans t2) l2)
    | false => exact iteF (q H1 t1 l1))
theorem aw_or (h : AT X a ρ A b1) (h2 : b1 = false → AW X (.BoolOp .Or (b :: rest) pos) ρ A b2) : AW X (.BoolOp .Or (a :: b :: rest) pos) ρ A (b1 || b2) := fun σ H s Q q =>
  tmw_of (pw_or (pt_tm a) (pw_tm _)) (h σ H s _ fun H1 t1 l1 => by
    cases b1 with
    | false => exact iteF (h2 rfl σ H1 (s.mono t1 l1) Q fun H2 t2 l2 => q H2 (t1.trans t2) l2)
    | true => exact iteT (q H1 t1 l1))
theorem aew_and1 (h : AET X a ρ A kt) : AEW X (.BoolOp .And [a] pos) ρ A kt := fun σ H s Q q => tmw_of (pw_and1 (pt_tm a)) (h σ H s Q q)
theorem aew_or1 (h : AET X a ρ A kt) : AEW X (.BoolOp .Or [a] pos) ρ A kt := fun σ H s Q q => tmw_of (pw_or1 (pt_tm a)) (h σ H s Q q)
theorem aew_and (h : AET X a ρ A fun b1 A1 => (b1 = true → AEW X (.BoolOp .And (b :: rest) pos) ρ A1 kt) ∧ (b1 = false → kt false A1)) : AEW X (.BoolOp .And (a :: b :: rest) pos) ρ A kt := fun σ H s Q q =>
  tmw_of (pw_and (pt_tm a) (pw_tm _)) (h σ H s _ fun b1 H1 A1 t1 l1 hh => by
    cases b1 with
    | true => exact iteT (hh.1 rfl σ H1 (s.mono t1 l1) Q fun b2 H2 A2 t2 l2 k2 => q b2 H2 A2 (t1.trans t2) l2 k2)
    | false => exact iteF (q _ H1 A1 t1 l1 (hh.2 rfl)))
theorem aew_or (h : AET X a ρ A fun b1 A1 => (b1 = false → AEW X (.BoolOp .Or (b :: rest) pos) ρ A1 kt) ∧ (b1 = true → kt true A1)) : AEW X (.BoolOp .Or (a :: b :: rest) pos) ρ A kt := fun σ H s Q q =>
  tmw_of (pw_or (pt_tm a) (pw_tm _)) (h σ H s _ fun b1 H1 A1 t1 l1 hh => by
    cases b1 with
    | false => exact iteF (hh.1 rfl σ H1 (s.mono t1 l1) Q fun b2 H2 A2 t2 l2 k2 => q b2 H2 A2 (t1.trans t2) l2 k2)
    | true => exact iteT (q _ H1 A1 t1 l1 (hh.2 rfl)))
/-! .. as values -/
theorem av_one {op : BoolOp} (h : AV X a ρ A d) : AV X (.BoolOp op [a] pos) ρ A d := fun σ H s Q q => tm_of (pe_one (pe_tm a)) (h σ H s Q q)
theorem av_and (h : AV X a ρ A (.bl b1)) (h2 : b1 = true → AV X (.BoolOp .And (b :: rest) pos) ρ A (.bl b2)) : AV X (.BoolOp .And (a :: b :: rest) pos) ρ A (.bl (b1 && b2)) := fun σ H s Q q =>
  tm_of (pe_and (pe_tm a) (pe_tm _)) (h σ H s _ fun v H1 t1 r1 l1 => ⟨b1, r1.bl_of, by
    cases b1 with
    | true => exact iteT (h2 rfl σ H1 (s.mono t1 l1) Q fun v2 H2 t2 r2 l2 => q v2 H2 (t1.trans t2) r2 l2)
    | false => exact iteF (q _ H1 t1 (.bl _) l1)⟩)
theorem av_or (h : AV X a ρ A (.bl b1)) (h2 : b1 = false → AV X (.BoolOp .Or (b :: rest) pos) ρ A (.bl b2)) : AV X (.BoolOp .Or (a :: b :: rest) pos) ρ A (.bl (b1 || b2)) := fun σ H s Q q =>
  tm_of (pe_or (pe_tm a) (pe_tm _)) (h σ H s _ fun v H1 t1 r1 l1 => ⟨b1, r1.bl_of, by
    cases b1 with
    | false => exact iteF (h2 rfl σ H1 (s.mono t1 l1) Q fun v2 H2 t2 r2 l2 => q v2 H2 (t1.trans t2) r2 l2)
    | true => exact iteT (q _ H1 t1 (.bl _) l1)⟩)
theorem ae_one {op : BoolOp} (h : AE X a ρ A k) : AE X (.BoolOp op [a] pos) ρ A k := fun σ H s Q q => tm_of (pe_one (pe_tm a)) (h σ H s Q q)
theorem ae_and (h : AE X a ρ A fun d A1 => ∃ b1, d = .bl b1 ∧ (b1 = true → AE X (.BoolOp .And (b :: rest) pos) ρ A1 k) ∧ (b1 = false → k (.bl false) A1)) : AE X (.BoolOp .And (a :: b :: rest) pos) ρ A k := fun σ H s Q q =>
  tm_of (pe_and (pe_tm a) (pe_tm _)) (h σ H s _ fun v H1 d A1 t1 r1 l1 ⟨b1, eb, h1, h2⟩ => ⟨b1, by rw [eb] at r1; exact r1.bl_of, by
    cases b1 with
    | true => exact iteT (h1 rfl σ H1 (s.mono t1 l1) Q fun v2 H2 d2 A2 t2 r2 l2 k2 => q v2 H2 d2 A2 (t1.trans t2) r2 l2 k2)
    | false => exact iteF (q _ H1 _ A1 t1 (.bl _) l1 (h2 rfl))⟩)
theorem av_not (h : AV X a ρ A (.bl b1)) : AV X (.UnaryOp .Not a pos) ρ A (.bl (!b1)) := fun σ H s Q q => tm_of (pe_not (pe_tm a)) (h σ H s _ fun v H1 t1 r1 l1 => ⟨b1, r1.bl_of, q _ H1 t1 (.bl _) l1⟩)
theorem ae_not (h : AE X a ρ A fun d A1 => ∃ b1, d = .bl b1 ∧ k (.bl (!b1)) A1) : AE X (.UnaryOp .Not a pos) ρ A k := fun σ H s Q q => tm_of (pe_not (pe_tm a)) (h σ H s _ fun v H1 d A1 t1 r1 l1 ⟨b1, eb, h1⟩ => ⟨b1, by rw [eb] at r1; exact r1.bl_of, q _ H1 _ A1 t1 (.bl _) l1 h1⟩)
theorem av_if {dT dF : D} (hc : AT X c ρ A b1) (ha : b1 = true → AV X a ρ A d) (hb : b1 = false → AV X b ρ A d) : AV X (.IfExp c a b pos) ρ A d := fun σ H s Q q =>
  tm_of (pe_ifExp (pt_tm c) (pe_tm a) (pe_tm b)) (hc σ H s _ fun H1 t1 l1 => by
    cases b1 with
    | true => exact iteT (ha rfl σ H1 (s.mono t1 l1) Q fun v2 H2 t2 r2 l2 => q v2 H2 (t1.trans t2) r2 l2)
    | false => exact iteF (hb rfl σ H1 (s.mono t1 l1) Q fun v2 H2 t2 r2 l2 => q v2 H2 (t1.trans t2) r2 l2))

/-! ### argument lists, displays -/
variable {ds : List D}
theorem avs_nil : AVs X [] ρ A [] := fun σ H s Q q => tma_of pa_nil (q [] H (TS.refl H) .nil s.hp)
theorem avs_cons (h : AV X e ρ A d) (hr : AVs X es ρ A ds) (hs : starEach (e :: es) X.env = (false, eval e X.env) :: starEach es X.env := by rfl) : AVs X (e :: es) ρ A (d :: ds) := fun σ H s Q q =>
  tma_of (pa_cons (pe_tm e) (pa_tm es) hs) (h σ H s _ fun v H1 t1 r1 l1 => hr σ H1 (s.mono t1 l1) _ fun vs H2 t2 r2 l2 => q (v :: vs) H2 (t1.trans t2) (.cons (r1.mono t2) r2) l2)
theorem aes_nil {kk : List D → AH → Prop} (h : kk [] A) : AEs X [] ρ A kk := fun σ H s Q q => tma_of pa_nil (q [] H [] A (TS.refl H) .nil s.hp h)
theorem aes_cons {kk : List D → AH → Prop} (h : AE X e ρ A fun d A1 => AEs X es ρ A1 fun ds A2 => kk (d :: ds) A2) (hs : starEach (e :: es) X.env = (false, eval e X.env) :: starEach es X.env := by rfl) : AEs X (e :: es) ρ A kk := fun σ H s Q q =>
  tma_of (pa_cons (pe_tm e) (pa_tm es) hs) (h σ H s _ fun v H1 d A1 t1 r1 l1 h1 => h1 σ H1 (s.mono t1 l1) _ fun vs H2 ds A2 t2 r2 l2 k2 => q (v :: vs) H2 (d :: ds) A2 (t1.trans t2) (.cons (r1.mono t2) r2) l2 k2)
theorem tup_ok {vs : List V} {H : Hp} {p : Addr} {K : Frag} (h : Rps K H vs ds) (hp : H p = none) : Rp K (upd H p (.tup vs)) (.ref p) (.tup ds) := .tup (SqT.of upd_same) (h.mono (TS.new hp))
theorem av_tup {x1 : Nat} (h : AVs X es ρ A ds) (hl : ds.length ≤ sizeLine := by first | decide | exact Nat.le_of_ble_eq_true rfl) : AV X (.Tuple es x1 pos) ρ A (.tup ds) := fun σ H s Q q =>
  tm_of (pe_tup (pa_tm es)) (h σ H s _ fun vs H1 t1 r1 l1 => ⟨by rw [r1.length]; exact hl, fun p hp => q (.ref p) _ (t1.trans (TS.new hp)) (tup_ok r1 hp) (l1.newT hp)⟩)
theorem ae_tup {x1 : Nat} (h : AEs X es ρ A fun ds A1 => ds.length ≤ sizeLine ∧ k (.tup ds) A1) : AE X (.Tuple es x1 pos) ρ A k := fun σ H s Q q =>
  tm_of (pe_tup (pa_tm es)) (h σ H s _ fun vs H1 ds A1 t1 r1 l1 h1 => ⟨by rw [r1.length]; exact h1.1, fun p hp => q (.ref p) _ (.tup ds) A1 (t1.trans (TS.new hp)) (tup_ok r1 hp) (l1.newT hp) h1.2⟩)
theorem ae_lst (h : AEs X es ρ A fun ds A1 => ds.length ≤ sizeLine ∧ ∀ p, A1 p = none → k (.ref p) (aupd A1 p (.lst ds))) : AE X (.List es pos) ρ A k := fun σ H s Q q =>
  tm_of (pe_lst (pa_tm es)) (h σ H s _ fun vs H1 ds A1 t1 r1 l1 h1 => ⟨by rw [r1.length]; exact h1.1, fun p hp => q (.ref p) _ _ _ (t1.trans (TS.new hp)) (.ref p) (l1.newL hp r1).2 (h1.2 p (l1.none hp))⟩)
/-- e gives a new list of ds -/
def AL (X : Cx) (e : Expr) (ρ : Ro) (A : AH) (ds : List D) : Prop := ∀ k : AK, (∀ p, A p = none → k (.ref p) (aupd A p (.lst ds))) → AE X e ρ A k
theorem AL.ae (h : AL X e ρ A ds) (q : ∀ p, A p = none → k (.ref p) (aupd A p (.lst ds))) : AE X e ρ A k := h k q
theorem al_lst (h : AVs X es ρ A ds) (hl : ds.length ≤ sizeLine := by first | decide | exact Nat.le_of_ble_eq_true rfl) : AL X (.List es pos) ρ A ds := fun k q => ae_lst (h.aes ⟨hl, q⟩)

/-! ### subscripts -/
theorem av_ixT {i : Int} (ha : AV X a ρ A (.tup ds)) (hb : AV X b ρ A (.int i)) (h : atI ds i = some d) (hs : PlainIx b := by intro _ _; rfl) : AV X (.Subscript a b pos) ρ A d := fun σ H s Q q =>
  tm_of (pe_ix ix_tup (pe_tm a) (pe_tm b) hs) (ha σ H s _ fun v H1 t1 r1 l1 => hb σ H1 (s.mono t1 l1) _ fun u H2 t2 r2 l2 => by
    obtain ⟨p, vs, rfl, h1, h2⟩ := (r1.mono t2).tup_of
    rw [r2.int_of]
    obtain ⟨w, e1, e2⟩ := h2.atI h
    exact ⟨p, vs, i, w, rfl, rfl, h1, e1, q w H2 (t1.trans t2) e2 l2⟩)
theorem av_ixL {x : D} {i : Int} (ha : AV X a ρ A x) (hb : AV X b ρ A (.int i)) (hl : IsL A x ds) (h : atI ds i = some d) (hs : PlainIx b := by intro _ _; rfl) : AV X (.Subscript a b pos) ρ A d := fun σ H s Q q =>
  tm_of (pe_ix ix_list (pe_tm a) (pe_tm b) hs) (ha σ H s _ fun v H1 t1 r1 l1 => hb σ H1 (s.mono t1 l1) _ fun u H2 t2 r2 l2 => by
    rw [r2.int_of]
    obtain ⟨p, vs, rfl, h1, h2⟩ := hl.sq (r1.mono t2) l2
    obtain ⟨w, e1, e2⟩ := h2.atI h
    exact ⟨p, vs, i, w, rfl, rfl, h1, e1, q w H2 (t1.trans t2) e2 l2⟩)
theorem ae_ixL (h : AE X a ρ A fun x A1 => AE X b ρ A1 fun y A2 => ∃ i ds d, IsL A2 x ds ∧ y = .int i ∧ atI ds i = some d ∧ k d A2) (hs : PlainIx b := by intro _ _; rfl) : AE X (.Subscript a b pos) ρ A k := fun σ H s Q q =>
  tm_of (pe_ix ix_list (pe_tm a) (pe_tm b) hs) (h σ H s _ fun v H1 x A1 t1 r1 l1 h1 => h1 σ H1 (s.mono t1 l1) _ fun u H2 y A2 t2 r2 l2 h2 => by
    obtain ⟨i, ds, d, hl, rfl, hd, hk⟩ := h2
    rw [r2.int_of]
    obtain ⟨p, vs, rfl, h1, h2⟩ := hl.sq (r1.mono t2) l2
    obtain ⟨w, e1, e2⟩ := h2.atI hd
    exact ⟨p, vs, i, w, rfl, rfl, h1, e1, q w H2 d A2 (t1.trans t2) e2 l2 hk⟩)
theorem ae_ixT (h : AE X a ρ A fun x A1 => AE X b ρ A1 fun y A2 => ∃ i ds d, x = .tup ds ∧ y = .int i ∧ atI ds i = some d ∧ k d A2) (hs : PlainIx b := by intro _ _; rfl) : AE X (.Subscript a b pos) ρ A k := fun σ H s Q q =>
  tm_of (pe_ix ix_tup (pe_tm a) (pe_tm b) hs) (h σ H s _ fun v H1 x A1 t1 r1 l1 h1 => h1 σ H1 (s.mono t1 l1) _ fun u H2 y A2 t2 r2 l2 h2 => by
    obtain ⟨i, ds, d, rfl, rfl, hd, hk⟩ := h2
    obtain ⟨p, vs, rfl, h1, h2⟩ := (r1.mono t2).tup_of
    rw [r2.int_of]
    obtain ⟨w, e1, e2⟩ := h2.atI hd
    exact ⟨p, vs, i, w, rfl, rfl, h1, e1, q w H2 d A2 (t1.trans t2) e2 l2 hk⟩)

/-! ### built-ins by name -/
variable {n : Str} {p0 : Pos}
theorem ae_callB {id : String} {r : List V → Hp → VK → Prop} (hc : CallR X (.builtin id) r) (hg : Gl X n) (hm : X.mg n = none) (hv : bootBuiltins n = some (.builtin id))
    (h : AEs X (e :: es) ρ A fun ds A1 => ∀ vs H, Rps X.K H vs ds → Rel X.K A1 H → ∀ Q : VK, (∀ z H' d A', TS H H' → Rp X.K H' z d → Rel X.K A' H' → k d A' → Q z H') → r vs H Q)
    (hn : n ≠ "__name__" := by decide) (hdb : (n == ("__debug__" : Str)) = false := by decide) (he : starEach (e :: es) X.env = (false, eval e X.env) :: starEach es X.env := by rfl) (hpl : (backTo pos (starEach es X.env)).any (·.1) = false := by rfl) :
    AE X (.Call (.Name n p0) (e :: es) [] pos) ρ A k := fun σ H s Q q =>
  tm_of (pe_callB hc hg hm hv (pa_tm (e :: es)) hn hdb he hpl) (h σ H s _ fun vs H1 ds A1 t1 r1 l1 h1 => h1 vs H1 r1 l1 Q fun z H' d A' t2 r2 l2 k2 => q z H' d A' (t1.trans t2) r2 l2 k2)
theorem av_callB {id : String} {r : List V → Hp → VK → Prop} (hc : CallR X (.builtin id) r) (hg : Gl X n) (hm : X.mg n = none) (hv : bootBuiltins n = some (.builtin id))
    (ha : AVs X (e :: es) ρ A ds) (h : ∀ vs H, Rps X.K H vs ds → Rel X.K A H → ∀ Q : VK, (∀ z H', TS H H' → Rp X.K H' z d → Rel X.K A H' → Q z H') → r vs H Q)
    (hn : n ≠ "__name__" := by decide) (hdb : (n == ("__debug__" : Str)) = false := by decide) (he : starEach (e :: es) X.env = (false, eval e X.env) :: starEach es X.env := by rfl) (hpl : (backTo pos (starEach es X.env)).any (·.1) = false := by rfl) :
    AV X (.Call (.Name n p0) (e :: es) [] pos) ρ A d := fun σ H s Q q =>
  tm_of (pe_callB hc hg hm hv (pa_tm (e :: es)) hn hdb he hpl) (ha σ H s _ fun vs H1 t1 r1 l1 => h vs H1 r1 l1 Q fun z H' t2 r2 l2 => q z H' (t1.trans t2) r2 l2)
theorem ae_callTy {id : String} {r : List V → Hp → VK → Prop} (hc : CallR X (.type id) r) (hg : Gl X n) (hm : X.mg n = none) (hv : bootBuiltins n = some (.type id))
    (h : AEs X (e :: es) ρ A fun ds A1 => ∀ vs H, Rps X.K H vs ds → Rel X.K A1 H → ∀ Q : VK, (∀ z H' d A', TS H H' → Rp X.K H' z d → Rel X.K A' H' → k d A' → Q z H') → r vs H Q)
    (hn : n ≠ "__name__" := by decide) (hdb : (n == ("__debug__" : Str)) = false := by decide) (he : starEach (e :: es) X.env = (false, eval e X.env) :: starEach es X.env := by rfl) (hpl : (backTo pos (starEach es X.env)).any (·.1) = false := by rfl) :
    AE X (.Call (.Name n p0) (e :: es) [] pos) ρ A k := fun σ H s Q q =>
  tm_of (pe_callTy hc hg hm hv (pa_tm (e :: es)) hn hdb he hpl) (h σ H s _ fun vs H1 ds A1 t1 r1 l1 h1 => h1 vs H1 r1 l1 Q fun z H' d A' t2 r2 l2 k2 => q z H' d A' (t1.trans t2) r2 l2 k2)
end
end C7
namespace C7
open PySem PySem.Spec PyProof.Rows L2

section
variable {X : Cx} {W : WX} {ρ ρ' : Ro} {A : AH} {E : AEnds} {e a b c : Expr} {es : List Expr} {pos : Pos} {d x y : D} {k : AK} {st : Stmt} {rest body : List Stmt} {ds : List D}

/-! ### blocks -/
theorem as_nil (h : E.nx ρ A) : AS X W [] ρ A E := fun σ H s D q => tms_of pss_nil (q.nx ρ A σ H (TS.refl H) s h)
theorem EOk.seq {K : Frag} {H : Hp} {D : Ends} {t : L2.TS} {nx' : Ro → AH → Prop} (q : EOk K W H E D) (h : ∀ ρ' A' σ' H', TS H H' → Sr K ρ' A' σ' H' → nx' ρ' A' → t D σ' H') : EOk K W H { E with nx := nx' } { D with nx := t D } :=
  ⟨h, q.rt, q.bk, q.ct, q.xc⟩
theorem as_cons (h : A1 X W st ρ A { E with nx := fun ρ' A' => AS X W rest ρ' A' E }) : AS X W (st :: rest) ρ A E := fun σ H s D q =>
  tms_of (pss_cons (ps_tm st) (pss_tm rest)) (h σ H s { D with nx := TMs X rest D } (q.seq fun ρ' A' σ' H' t s' h' => h' σ' H' s' D (q.mono t)))
theorem AS.mono {E' : AEnds} (h : AS X W rest ρ A E) (h1 : ∀ ρ A, E.nx ρ A → E'.nx ρ A) (h2 : ∀ d A, E.rt d A → E'.rt d A) (h3 : ∀ ρ A, E.bk ρ A → E'.bk ρ A) (h4 : ∀ ρ A, E.ct ρ A → E'.ct ρ A) (h5 : ∀ c ρ A, E.xc c ρ A → E'.xc c ρ A) : AS X W rest ρ A E' := fun σ H s D q =>
  h σ H s D ⟨fun _ _ _ _ t s x => q.nx _ _ _ _ t s (h1 _ _ x), fun _ _ _ _ t s r x => q.rt _ _ _ _ t s r (h2 _ _ x), fun _ _ _ _ t s x => q.bk _ _ _ _ t s (h3 _ _ x), fun _ _ _ _ t s x => q.ct _ _ _ _ t s (h4 _ _ x), fun _ _ _ _ _ t s x => q.xc _ _ _ _ _ t s (h5 _ _ _ x)⟩
/-- less may be known -/
theorem AS.sub {A' : AH} (h : AS X W rest ρ A E) (e : Ext A A') : AS X W rest ρ A' E := fun σ H s D q => h σ H (s.sub e) D q

/-! ### small statements -/
theorem a1_pass (h : E.nx ρ A) : A1 X W (.Pass pos) ρ A E := fun σ H s D q => tm1_of ps_pass (q.nx ρ A σ H (TS.refl H) s h)
theorem a1_break (h : E.bk ρ A) : A1 X W (.Break pos) ρ A E := fun σ H s D q => tm1_of ps_break (q.bk ρ A σ H (TS.refl H) s h)
theorem a1_continue (h : E.ct ρ A) : A1 X W (.Continue pos) ρ A E := fun σ H s D q => tm1_of ps_continue (q.ct ρ A σ H (TS.refl H) s h)
theorem a1_ret (h : AE X e ρ A E.rt) : A1 X W (.Return (some e) pos) ρ A E := fun σ H s D q => tm1_of (ps_ret (pe_tm e)) (h σ H s _ fun v H' d A' t r l kd => q.rt d A' v H' t l r kd)
theorem as_ret (h : AE X e ρ A E.rt) : AS X W (.Return (some e) pos :: rest) ρ A E := as_cons (a1_ret h)
theorem as_retv (h : AV X e ρ A d) (q : E.rt d A) : AS X W (.Return (some e) pos :: rest) ρ A E := as_cons (a1_ret (h.ae q))
theorem as_retw {A0 : AH} (h : AV X e ρ A d) (x : Ext A0 A) (q : E.rt d A0) : AS X W (.Return (some e) pos :: rest) ρ A E := as_cons (a1_ret (AE.weak (h.ae ⟨A0, x, q⟩)))
theorem as_nilw {A0 : AH} (x : Ext A0 A) (h : E.nx ρ A0) : AS X W [] ρ A E := fun σ H s D q => tms_of pss_nil (q.nx ρ A0 σ H (TS.refl H) (s.sub x) h)
theorem a1_expr (h : AE X e ρ A fun _ A' => E.nx ρ A') (hs : swapsWith e none pos.line X.env = pure false := by rfl) : A1 X W (.Expr e pos) ρ A E := fun σ H s D q =>
  tm1_of (ps_expr (pe_tm e) hs) (h σ H s _ fun v H' d A' t r l kd => q.nx ρ A' σ H' t (s.mono t l) kd)
theorem a1_if {th el : List Stmt} (h : AET X c ρ A fun bb A' => (bb = true → AS X W th ρ A' E) ∧ (bb = false → AS X W el ρ A' E)) : A1 X W (.If c th el pos) ρ A E := fun σ H s D q =>
  tm1_of (ps_if (pt_tm c) (pss_tm th) (pss_tm el)) (h σ H s _ fun bb H' A' t l kd => by
    cases bb with
    | true => exact iteT (kd.1 rfl σ H' (s.mono t l) D (q.mono t))
    | false => exact iteF (kd.2 rfl σ H' (s.mono t l) D (q.mono t)))
theorem as_if {th el : List Stmt} {bb : Bool} (h : AT X c ρ A bb) (h1 : bb = true → AS X W th ρ A { E with nx := fun ρ' A' => AS X W rest ρ' A' E }) (h2 : bb = false → AS X W el ρ A { E with nx := fun ρ' A' => AS X W rest ρ' A' E }) : AS X W (.If c th el pos :: rest) ρ A E :=
  as_cons (a1_if (h.aet ⟨h1, h2⟩))
/-- an if, the rest shown once, from Mid -/
theorem as_ifm {th el : List Stmt} {bb : Bool} (Mid : Ro → AH → Prop) (h : AT X c ρ A bb) (h1 : bb = true → AS X W th ρ A { E with nx := Mid }) (h2 : bb = false → AS X W el ρ A { E with nx := Mid }) (hr : ∀ ρ' A', Mid ρ' A' → AS X W rest ρ' A' E) : AS X W (.If c th el pos :: rest) ρ A E :=
  as_if h (fun e => (h1 e).mono hr (fun _ _ x => x) (fun _ _ x => x) (fun _ _ x => x) (fun _ _ _ x => x)) (fun e => (h2 e).mono hr (fun _ _ x => x) (fun _ _ x => x) (fun _ _ x => x) (fun _ _ _ x => x))
theorem as_mid (Mid : Ro → AH → Prop) {st : Stmt} (h : A1 X W st ρ A { E with nx := Mid }) (hr : ∀ ρ' A', Mid ρ' A' → AS X W rest ρ' A' E) : AS X W (st :: rest) ρ A E := as_cons fun σ H s D q => h σ H s D ⟨fun _ _ _ _ t s x => q.nx _ _ _ _ t s (hr _ _ x), q.rt, q.bk, q.ct, q.xc⟩
/-- the rest of a block behind an if whose branch falls through -/
theorem as_end (h : AS X W rest ρ A E) : AS X W [] ρ A { E with nx := fun ρ' A' => AS X W rest ρ' A' E } := as_nil h

/-! ### targets -/
theorem ag_name {i : Nat} {n : Str} (hN : X.N.Nodup) (hi : X.N[i]? = some n) (hx : Loc X.env.scope n) (hf : X.fn n = true ∨ X.env.scope.names.lookup n = some .local := by first | exact .inl rfl | exact .inr rfl | assumption) : AG X (.Name n pos) [i] ρ d (ρ.set i (some d)) := fun v σ H A s r Q q =>
  tmg_of (pg_name hN hi hx hf) (q _ (by simp) (fun j hj => by rw [List.getElem?_set_ne (fun z => hj (by simp [z]))]) (s.set i r))
theorem ags_nil : AGs X [] [] ρ [] ρ := fun vs σ H A s r Q q => tmgs_of pgs_nil (by cases r; exact ⟨rfl, q σ rfl (fun _ _ => rfl) s⟩)
theorem ags_cons {is js : List Nat} {ρ1 : Ro} (h : AG X e is ρ d ρ1) (hr : AGs X es js ρ1 ds ρ') (hs : (assignEach (e :: es) X.env).map (·.2) = assign e X.env :: (assignEach es X.env).map (·.2) := by rfl) : AGs X (e :: es) (is ++ js) ρ (d :: ds) ρ' := fun vs σ H A s r Q q => by
  cases r with
  | cons r1 r2 =>
    exact tmgs_of (pgs_cons (pg_tm e) (pgs_tm es) hs) ⟨_, _, rfl, h _ σ H A s r1 _ fun σ1 hl hj s1 => hr _ σ1 H A s1 r2 Q fun σ2 hl2 hj2 s2 =>
      q σ2 (hl2.trans hl) (fun j hm => (hj2 j fun z => hm (List.mem_append_right _ z)).trans (hj j fun z => hm (List.mem_append_left _ z))) s2⟩
theorem ag_tup {is : List Nat} {kk : Nat} (hc : X.calm = true) (h : AGs X es is ρ ds ρ') (hn : (assignEach es X.env).length = ds.length := by rfl) (hst : (assignEach es X.env).findIdx? (·.1) = none := by rfl) : AG X (.Tuple es kk pos) is ρ (.tup ds) ρ' := fun v σ H A s r Q q => by
  obtain ⟨p, vs, rfl, h1, h2⟩ := r.tup_of
  exact tmg_of (pg_tup hc (pgs_tm es) hn hst) ⟨p, vs, rfl, h1, h2.length, h vs σ H A s h2 Q q⟩

/-! ### assignments -/
theorem a1_asg {tg : Expr} {is : List Nat} (h : AE X e ρ A fun d A' => ∃ ρ', AG X tg is ρ d ρ' ∧ E.nx ρ' A') (hs : swapsWithSole [tg] e pos.line X.env = pure false := by rfl) (hw : swappedStores [tg] e X.env = pure none := by rfl)
    (h1 : (assignEach [tg] X.env).map (·.2) = [assign tg X.env] := by rfl) : A1 X W (.Assign [tg] e pos) ρ A E := fun σ H s D q =>
  tm1_of (ps_asg (pe_tm e) (pg_tm tg) hs hw h1) (h σ H s _ fun v H' d A' t r l ⟨ρ', g, kd⟩ => g v σ H' A' (s.mono t l) r _ fun σ' _ _ s' => q.nx ρ' A' σ' H' t s' kd)
theorem a1_set {i : Nat} {n : Str} {pos' : Pos} (hN : X.N.Nodup) (hi : X.N[i]? = some n) (hx : Loc X.env.scope n) (h : AE X e ρ A fun d A' => E.nx (ρ.set i (some d)) A') (hs : swapsWith e (some (.Name n pos')) pos.line X.env = pure false := by rfl)
    (hf : X.fn n = true ∨ X.env.scope.names.lookup n = some .local := by first | exact .inl rfl | exact .inr rfl | assumption) : A1 X W (.Assign [.Name n pos'] e pos) ρ A E := fun σ H s D q =>
  tm1_of (ps_set (i := i) hN hi hx (pe_tm e) hs hf) (h σ H s _ fun v H' d A' t r l kd => q.nx _ A' _ H' t ((s.mono t l).set i r) kd)
theorem as_set {i : Nat} {n : Str} {pos' : Pos} (hN : X.N.Nodup) (hi : X.N[i]? = some n) (hx : Loc X.env.scope n) (h : AE X e ρ A fun d A' => AS X W rest (ρ.set i (some d)) A' E) (hs : swapsWith e (some (.Name n pos')) pos.line X.env = pure false := by rfl)
    (hf : X.fn n = true ∨ X.env.scope.names.lookup n = some .local := by first | exact .inl rfl | exact .inr rfl | assumption) : AS X W (.Assign [.Name n pos'] e pos :: rest) ρ A E := as_cons (a1_set hN hi hx h hs hf)
/-- a, b = e1, e2 -/
theorem a1_par {i j : Nat} {nx ny : Str} {px py pt : Pos} {kt k2 : Nat} {pt2 : Pos} {d1 d2 : D} (hc : X.calm = true) (hN : X.N.Nodup) (hi : X.N[i]? = some nx) (hj : X.N[j]? = some ny) (hij : i ≠ j)
    (hx : X.env.scope.names.lookup nx = some .local) (hy : X.env.scope.names.lookup ny = some .local) (h : AVs X [a, b] ρ A [d1, d2]) (q : E.nx ((ρ.set i (some d1)).set j (some d2)) A)
    (hp : ∀ ta : TA, PA X [a, b] ta → PS X (.Assign [.Tuple [.Name nx px, .Name ny py] kt pt] (.Tuple [a, b] k2 pt2) pos) (tPar i j ta)) : A1 X W (.Assign [.Tuple [.Name nx px, .Name ny py] kt pt] (.Tuple [a, b] k2 pt2) pos) ρ A E := fun σ H s D qq =>
  tm1_of (hp _ (pa_tm [a, b])) (h σ H s _ fun vs H' t r l => by
    cases r with
    | cons r1 r =>
      cases r with
      | cons r2 r =>
        cases r
        exact ⟨_, _, rfl, qq.nx _ A _ H' t (((s.mono t l).set i r1).set j r2) q⟩)
/-- x op= e, numbers -/
theorem a1_augI {i : Nat} {n : Str} {op : Operator} {g : Int → Int → Int} {pos' : Pos} {u v : Int} (hp : PIp X op (ipI g)) (hN : X.N.Nodup) (hi : X.N[i]? = some n) (hx : Loc X.env.scope n) (hv : ρ[i]? = some (some (.int u))) (h : AV X e ρ A (.int v)) (q : E.nx (ρ.set i (some (.int (g u v)))) A)
    (hf : X.fn n = true ∨ X.env.scope.names.lookup n = some .local := by first | exact .inl rfl | exact .inr rfl | assumption) : A1 X W (.AugAssign (.Name n pos') op e pos) ρ A E := fun σ H s D qq =>
  tm1_of (ps_aug (i := i) hN hi hx (pe_tm e) hp hf) (by
    obtain ⟨w, e1, e2⟩ := s.val i _ hv
    refine ⟨w, e1, h σ H s _ fun z H' t r l => ?_⟩
    rw [e2.int_of, r.int_of]
    exact ⟨u, v, rfl, rfl, qq.nx _ A _ H' t ((s.mono t l).set i (.int _)) q⟩)
/-- xs[i] = e -/
theorem a1_setL {o i : Expr} {p : Addr} {j : Int} {m : Nat} {tpos : Pos} (h : AV X e ρ A d) (ho : AV X o ρ A (.ref p)) (hi : AV X i ρ A (.int j)) (hl : A p = some (.lst ds)) (hj : ixN ds.length j = some m) (q : E.nx ρ (aupd A p (.lst (ds.set m d))))
    (ha : ∀ v, assign (.Subscript o i tpos) X.env v = (do
      let ov ← holding [v] (eval o X.env)
      let iv ← holding [v, ov] (eval i X.env)
      standAt tpos
      holding [v, ov, iv] (setItem ov iv v)
      release [v, ov, iv] []) := by intro _; rfl) (hs : swapsWithSole [.Subscript o i tpos] e pos.line X.env = pure false := by rfl) (hw : swappedStores [.Subscript o i tpos] e X.env = pure none := by rfl)
    (h1 : (assignEach [.Subscript o i tpos] X.env).map (·.2) = [assign (.Subscript o i tpos) X.env] := by rfl) : A1 X W (.Assign [.Subscript o i tpos] e pos) ρ A E := fun σ H s D qq =>
  tm1_of (ps_asg (pe_tm e) (pg_sub (pe_tm o) (pe_tm i) set_list ha) hs hw h1) (h σ H s _ fun v H1 t1 r1 l1 => ho σ H1 (s.mono t1 l1) _ fun w H2 t2 r2 l2 => hi σ H2 ((s.mono t1 l1).mono t2 l2) _ fun z H3 t3 r3 l3 => by
    rw [r2.ref_of, r3.int_of]
    obtain ⟨vs, e1, e2⟩ := l3.lst hl
    have tt := (t1.trans t2).trans t3
    obtain ⟨t4, l4⟩ := l3.putL e1 (e2.set ((r1.mono t2).mono t3) m)
    exact ⟨p, vs, j, m, rfl, rfl, e1, by rw [e2.length]; exact hj, qq.nx ρ _ σ _ (tt.trans t4) (s.mono (tt.trans t4) l4) q⟩)

/-! ### loops -/
theorem a1_while (hp : PassesOwn (model X.prog X.w) X.A X.env X.xe) (Pv : Ro → AH → Prop) (μ : Ro → AH → Nat) (h0 : Pv ρ A)
    (hs : ∀ ρ A, Pv ρ A → AET X c ρ A fun bb A1 => (bb = true → AS X W body ρ A1 { E with nx := fun ρ' A' => Pv ρ' A' ∧ μ ρ' A' < μ ρ A, ct := fun ρ' A' => Pv ρ' A' ∧ μ ρ' A' < μ ρ A, bk := E.nx }) ∧ (bb = false → E.nx ρ A1)) : A1 X W (.While c body [] pos) ρ A E := fun σ H s D q =>
  tm1_of (ps_while hp (pt_tm c) (pss_tm body)) (by
    refine ⟨fun m σ' H' => ∃ ρ' A', TS H H' ∧ Sr X.K ρ' A' σ' H' ∧ Pv ρ' A' ∧ m = μ ρ' A', ⟨_, ρ, A, TS.refl H, s, h0, rfl⟩, ?_⟩
    rintro m σ1 H1 ⟨ρ1, A1, t1, s1, p1, rfl⟩
    refine hs ρ1 A1 p1 σ1 H1 s1 _ fun bb H2 A2 t2 l2 kd => ?_
    cases bb with
    | true =>
      refine iteT ⟨fun σ' H' => ∃ ρ' A', TS H H' ∧ Sr X.K ρ' A' σ' H' ∧ Pv ρ' A' ∧ μ ρ' A' < μ ρ1 A1, ?_, ?_⟩
      · rintro σ' H' ⟨ρ', A', t', s', p', lt⟩
        exact ⟨_, lt, ρ', A', t', s', p', rfl⟩
      · have t12 := t1.trans t2
        refine kd.1 rfl σ1 H2 (s1.mono t2 l2) _ ⟨fun ρ' A' σ' H' t' s' p' => ⟨ρ', A', t12.trans t', s', p'.1, p'.2⟩, fun _ _ _ _ t' => q.rt _ _ _ _ (t12.trans t'), fun _ _ _ _ t' => q.nx _ _ _ _ (t12.trans t'), fun ρ' A' σ' H' t' s' p' => ⟨ρ', A', t12.trans t', s', p'.1, p'.2⟩, fun _ _ _ _ _ t' => q.xc _ _ _ _ _ (t12.trans t')⟩
    | false => exact iteF (q.nx ρ1 A2 σ1 H2 (t1.trans t2) (s1.mono t2 l2) (kd.2 rfl)))
/-- for: Pv holds ahead of turn i -/
theorem a1_for {tg iter : Expr} (hp : PassesOwn (model X.prog X.w) X.A X.env X.xe) (hc : X.calm = true)
    (hi : AI X tg iter ρ A fun A1 G n f => ∃ Pv : Nat → Ro → AH → Prop, Pv 0 ρ A1 ∧ (∀ i ρ' A', i ≤ n → Pv i ρ' A' → G A') ∧
      (∀ i ρ' A', i < n → Pv i ρ' A' → ∃ is ρ2, AG X tg is ρ' (f i) ρ2 ∧ AS X W body ρ2 A' { E with nx := Pv (i + 1), ct := Pv (i + 1), bk := E.nx }) ∧ ∀ ρ' A', Pv n ρ' A' → E.nx ρ' A')
    (hs : ∀ x, foldedSetIterable iter X.env x = pure x := by intro _; rfl) : A1 X W (.For tg iter body [] pos) ρ A E := fun σ H s D q =>
  tm1_of (ps_for hp hc (pi_tm tg iter) (pg_tm tg) (pss_tm body) hs) (hi σ H s _ fun J H1 A1 G n f t1 l1 wk ⟨Pv, h0, hG, hb, hd⟩ => by
    refine ⟨fun i m σ' H' => ∃ ρ' A', TS H1 H' ∧ Sr X.K ρ' A' σ' H' ∧ m = n - i ∧ i ≤ n ∧ Pv i ρ' A', ⟨n, ρ, A1, TS.refl _, s.mono t1 l1, by simp, Nat.zero_le _, h0⟩, ?_⟩
    rintro i m σ2 H2 ⟨ρ2, A2, t2, s2, rfl, hle, p2⟩
    by_cases hlt : i < n
    · refine .inr ⟨wk.go i H2 A2 hlt t2 s2.hp (hG i ρ2 A2 hle p2), fun σ' H' => ∃ ρ' A', TS H1 H' ∧ Sr X.K ρ' A' σ' H' ∧ Pv (i + 1) ρ' A', ?_, ?_⟩
      · rintro σ' H' ⟨ρ', A', t', s', p'⟩
        exact ⟨n - (i + 1), by omega, ρ', A', t', s', rfl, hlt, p'⟩
      · intro x H3 y3
        obtain ⟨t3, l3, r3⟩ := wk.yl i H2 A2 x H3 hlt t2 s2.hp (hG i ρ2 A2 hle p2) y3
        obtain ⟨is, ρ4, g4, b4⟩ := hb i ρ2 A2 hlt p2
        refine g4 x σ2 H3 A2 (s2.mono t3 l3) r3 _ fun σ4 _ _ s4 => ?_
        have t23 := t2.trans t3
        have t123 := t1.trans t23
        exact b4 σ4 H3 s4 _ ⟨fun ρ' A' σ' H' t' s' p' => ⟨ρ', A', t23.trans t', s', p'⟩, fun _ _ _ _ t' => q.rt _ _ _ _ (t123.trans t'), fun _ _ _ _ t' => q.nx _ _ _ _ (t123.trans t'), fun ρ' A' σ' H' t' s' p' => ⟨ρ', A', t23.trans t', s', p'⟩, fun _ _ _ _ _ t' => q.xc _ _ _ _ _ (t123.trans t')⟩
    · have e : i = n := by omega
      subst e
      exact .inl ⟨wk.st H2 A2 t2 s2.hp (hG _ ρ2 A2 hle p2), q.nx ρ2 A2 σ2 H2 (t1.trans t2) s2 (hd ρ2 A2 p2)⟩)

/-! ### what is walked -/
variable {tg : Expr} {kI : AH → (AH → Prop) → Nat → (Nat → D) → Prop} {p0 : Pos}
theorem wk_range (K : Frag) (H0 : Hp) (lo : Int) (n : Nat) : Wk K H0 (Itr lo n) (fun _ => True) n (fun i => .int (lo + i)) where
  go := fun i H A h _ _ _ => h
  yl := fun i H A x H' h _ r _ y => by
    obtain ⟨rfl, rfl⟩ := y
    exact ⟨TS.refl _, r, .int _⟩
  st := fun H A _ _ _ => Nat.le_refl n
theorem ai_range1 (hg : Gl X "range") (hm : X.mg "range" = none) (h : AE X a ρ A fun d A1 => ∃ j : Int, d = .int j ∧ -(2 ^ 62) ≤ j ∧ j < 2 ^ 62 ∧ kI A1 (fun _ => True) j.toNat (fun i => .int (0 + i))) (hs : starEach [a] X.env = [(false, eval a X.env)] := by rfl) :
    AI X tg (.Call (.Name "range" p0) [a] [] pos) ρ A kI := fun σ H s R q =>
  tmi_of (pi_range1 hg hm (pa_cons (pe_tm a) pa_nil hs) hs) (h σ H s _ fun v H1 d A1 t1 r1 l1 ⟨j, e, h1, h2, k1⟩ => ⟨j, by rw [e] at r1; rw [r1.int_of], h1, h2, q _ H1 A1 _ _ _ t1 l1 (wk_range X.K H1 0 j.toNat) k1⟩)
theorem ai_range2 (hg : Gl X "range") (hm : X.mg "range" = none) (h : AVs X [a, b] ρ A ds) (hd : ∃ i j : Int, ds = [.int i, .int j] ∧ (-(2 ^ 62) ≤ i ∧ i < 2 ^ 62 ∧ -(2 ^ 62) ≤ j ∧ j < 2 ^ 62) ∧ kI A (fun _ => True) (j - i).toNat (fun m => .int (i + m))) (hs : starEach [a, b] X.env = [(false, eval a X.env), (false, eval b X.env)] := by rfl)
    (hs2 : starEach [b] X.env = [(false, eval b X.env)] := by rfl) : AI X tg (.Call (.Name "range" p0) [a, b] [] pos) ρ A kI := fun σ H s R q =>
  tmi_of (pi_range2 hg hm (pa_tm [a, b]) hs hs2) (h σ H s _ fun vs H1 t1 r1 l1 => by
    obtain ⟨i, j, rfl, hb, k1⟩ := hd
    cases r1 with
    | cons r1 r =>
      cases r with
      | cons r2 r =>
        cases r
        rw [r1.int_of, r2.int_of]
        exact ⟨i, j, rfl, hb, q _ H1 A _ _ _ t1 l1 (wk_range X.K H1 i (j - i).toNat) k1⟩)
theorem wk_list {K : Frag} {H0 : Hp} {p : Addr} {x0 : D} {ds : List D} (r0 : Rp K H0 (.ref p) x0) : Wk K H0 (Itl K p) (fun A => IsL A x0 ds) ds.length (fun i => ds.getD i .non) where
  go := fun i H A h t r g => by
    obtain ⟨p', vs, ep, h1, h2⟩ := g.sq (r0.mono t) r
    cases ep
    have hi : i < vs.length := by rw [h2.length]; exact h
    exact ⟨vs, vs[i], h1, List.getElem?_eq_getElem hi⟩
  yl := fun i H A x H' h t r g y => by
    obtain ⟨rfl, y⟩ := y
    obtain ⟨p', vs, ep, h1, h2⟩ := g.sq (r0.mono t) r
    cases ep
    obtain ⟨d, e1, e2⟩ := h2.getV (y vs h1)
    refine ⟨TS.refl _, r, ?_⟩
    rw [List.getD_eq_getElem?_getD, e1]
    exact e2
  st := fun H A t r g => by
    obtain ⟨p', vs, ep, h1, h2⟩ := g.sq (r0.mono t) r
    cases ep
    exact ⟨vs, h1, by rw [h2.length]; exact Nat.le_refl _⟩
theorem ai_list (h : AE X a ρ A fun d A1 => ∃ ds, IsL A1 d ds ∧ kI A1 (fun A' => IsL A' d ds) ds.length (fun i => ds.getD i .non)) : AI X tg a ρ A kI := fun σ H s R q =>
  tmi_of (pi_list (pe_tm a)) (h σ H s _ fun v H1 d A1 t1 r1 l1 ⟨ds, hl, k1⟩ => by
    obtain ⟨p, vs, rfl, h1, h2⟩ := hl.sq r1 l1
    exact ⟨p, rfl, ⟨vs, h1⟩, q _ H1 A1 _ _ _ t1 l1 (wk_list r1) k1⟩)
theorem wk_tup {K : Frag} {H0 : Hp} {p : Addr} {vs : List V} {ds : List D} (h1 : SqT K H0 p vs) (h2 : Rps K H0 vs ds) : Wk K H0 (Itt K p) (fun _ => True) ds.length (fun i => ds.getD i .non) where
  go := fun i H A h t r g => by
    have hi : i < vs.length := by rw [h2.length]; exact h
    exact ⟨vs, vs[i], t.sq h1, List.getElem?_eq_getElem hi⟩
  yl := fun i H A x H' h t r g y => by
    obtain ⟨rfl, y⟩ := y
    obtain ⟨d, e1, e2⟩ := (h2.mono t).getV (y vs (t.sq h1))
    refine ⟨TS.refl _, r, ?_⟩
    rw [List.getD_eq_getElem?_getD, e1]
    exact e2
  st := fun H A t r g => ⟨vs, t.sq h1, by rw [h2.length]; exact Nat.le_refl _⟩
theorem ai_tup (h : AV X a ρ A (.tup ds)) (k1 : kI A (fun _ => True) ds.length (fun i => ds.getD i .non)) : AI X tg a ρ A kI := fun σ H s R q =>
  tmi_of (pi_tup (pe_tm a)) (h σ H s _ fun v H1 t1 r1 l1 => by
    obtain ⟨p, vs, rfl, h1, h2⟩ := r1.tup_of
    exact ⟨p, rfl, ⟨vs, h1⟩, q _ H1 A (fun A' => True) ds.length _ t1 l1 (wk_tup h1 h2) k1⟩)
theorem wk_enum {K : Frag} {H0 : Hp} {p : Addr} {x0 : D} {ds : List D} (r0 : Rp K H0 (.ref p) x0) : Wk K H0 (Ite K p) (fun A => IsL A x0 ds) ds.length (fun i => .tup [.int (i : Nat), ds.getD i .non]) where
  go := fun i H A h t r g => by
    obtain ⟨p', vs, ep, h1, h2⟩ := g.sq (r0.mono t) r
    cases ep
    have hi : i < vs.length := by rw [h2.length]; exact h
    exact ⟨vs, vs[i], h1, List.getElem?_eq_getElem hi⟩
  yl := fun i H A x H' h t r g y => by
    obtain ⟨T, z, rfl, hT, rfl, y⟩ := y
    obtain ⟨p', vs, ep, h1, h2⟩ := g.sq (r0.mono t) r
    cases ep
    obtain ⟨d, e1, e2⟩ := h2.getV (y vs h1)
    refine ⟨TS.new hT, r.newT hT, ?_⟩
    rw [List.getD_eq_getElem?_getD, e1]
    exact tup_ok (.cons (.int _) (.cons e2 .nil)) hT
  st := fun H A t r g => by
    obtain ⟨p', vs, ep, h1, h2⟩ := g.sq (r0.mono t) r
    cases ep
    exact ⟨vs, h1, by rw [h2.length]; exact Nat.le_refl _⟩
theorem ai_enum {elts : List Expr} {kk : Nat} {tpos : Pos} (hg : Gl X "enumerate") (hm : X.mg "enumerate" = none) (h : AE X a ρ A fun d A1 => ∃ ds, IsL A1 d ds ∧ kI A1 (fun A' => IsL A' d ds) ds.length (fun i => .tup [.int (i : Nat), ds.getD i .non]))
    (hs : starEach [a] X.env = [(false, eval a X.env)] := by rfl) : AI X (.Tuple elts kk tpos) (.Call (.Name "enumerate" p0) [a] [] pos) ρ A kI := fun σ H s R q =>
  tmi_of (pi_enum hg hm (pa_cons (pe_tm a) pa_nil hs) hs) (h σ H s _ fun v H1 d A1 t1 r1 l1 ⟨ds, hl, k1⟩ => by
    obtain ⟨p, vs, rfl, h1, h2⟩ := hl.sq r1 l1
    exact ⟨p, vs, rfl, h1, q _ H1 A1 _ _ _ t1 l1 (wk_enum r1) k1⟩)
theorem wk_zip {K : Frag} {H0 : Hp} {p p' : Addr} {x0 y0 : D} {ds ds' : List D} (r0 : Rp K H0 (.ref p) x0) (r0' : Rp K H0 (.ref p') y0) : Wk K H0 (Itz K p p') (fun A => IsL A x0 ds ∧ IsL A y0 ds') (min ds.length ds'.length) (fun i => .tup [ds.getD i .non, ds'.getD i .non]) where
  go := fun i H A h t r g => by
    obtain ⟨q1, vs, ep, h1, h2⟩ := g.1.sq (r0.mono t) r
    cases ep
    obtain ⟨q2, ws, ep, h3, h4⟩ := g.2.sq (r0'.mono t) r
    cases ep
    have hi : i < vs.length := by rw [h2.length]; omega
    have hj : i < ws.length := by rw [h4.length]; omega
    exact ⟨vs, ws, vs[i], ws[i], h1, h3, List.getElem?_eq_getElem hi, List.getElem?_eq_getElem hj⟩
  yl := fun i H A x H' h t r g y => by
    obtain ⟨T, z, z', rfl, hT, rfl, y, y'⟩ := y
    obtain ⟨q1, vs, ep, h1, h2⟩ := g.1.sq (r0.mono t) r
    cases ep
    obtain ⟨q2, ws, ep, h3, h4⟩ := g.2.sq (r0'.mono t) r
    cases ep
    obtain ⟨d, e1, e2⟩ := h2.getV (y vs h1)
    obtain ⟨d', e3, e4⟩ := h4.getV (y' ws h3)
    refine ⟨TS.new hT, r.newT hT, ?_⟩
    rw [List.getD_eq_getElem?_getD, List.getD_eq_getElem?_getD, e1, e3]
    exact tup_ok (.cons e2 (.cons e4 .nil)) hT
  st := fun H A t r g => by
    obtain ⟨q1, vs, ep, h1, h2⟩ := g.1.sq (r0.mono t) r
    cases ep
    obtain ⟨q2, ws, ep, h3, h4⟩ := g.2.sq (r0'.mono t) r
    cases ep
    refine ⟨vs, ws, h1, h3, ?_⟩
    rw [h2.length, h4.length]
    omega
theorem ai_zip {elts : List Expr} {kk : Nat} {tpos : Pos} (hg : Gl X "zip") (hm : X.mg "zip" = none) (h : AEs X [a, b] ρ A fun es' A1 => ∃ x y ds ds', es' = [x, y] ∧ IsL A1 x ds ∧ IsL A1 y ds' ∧ kI A1 (fun A' => IsL A' x ds ∧ IsL A' y ds') (min ds.length ds'.length) (fun i => .tup [ds.getD i .non, ds'.getD i .non]))
    (hs : starEach [a, b] X.env = (false, eval a X.env) :: starEach [b] X.env := by rfl) (hpl : (backTo pos (starEach [b] X.env)).any (·.1) = false := by rfl) : AI X (.Tuple elts kk tpos) (.Call (.Name "zip" p0) [a, b] [] pos) ρ A kI := fun σ H s R q =>
  tmi_of (pi_zip hg hm (pa_tm [a, b]) hs hpl) (h σ H s _ fun vs H1 es' A1 t1 r1 l1 ⟨x, y, ds, ds', e, hl, hl', k1⟩ => by
    subst e
    cases r1 with
    | cons r1 r =>
      cases r with
      | cons r2 r =>
        cases r
        obtain ⟨p, xs, rfl, h1, h2⟩ := hl.sq r1 l1
        obtain ⟨p', ys, rfl, h3, h4⟩ := hl'.sq r2 l1
        exact ⟨p, p', xs, ys, rfl, h1, h3, q _ H1 A1 _ _ _ t1 l1 (wk_zip r1 r2) k1⟩)
theorem wk_rev {K : Frag} {H0 : Hp} {p : Addr} {x0 : D} {ds : List D} (r0 : Rp K H0 (.ref p) x0) : Wk K H0 (Itv K p ds.length) (fun A => IsL A x0 ds) ds.length (fun i => ds.getD (ds.length - 1 - i) .non) where
  go := fun i H A h t r g => by
    obtain ⟨p', vs, ep, h1, h2⟩ := g.sq (r0.mono t) r
    cases ep
    have hi : ds.length - 1 - i < vs.length := by rw [h2.length]; omega
    exact ⟨h, vs, vs[ds.length - 1 - i], h1, List.getElem?_eq_getElem hi⟩
  yl := fun i H A x H' h t r g y => by
    obtain ⟨rfl, y⟩ := y
    obtain ⟨p', vs, ep, h1, h2⟩ := g.sq (r0.mono t) r
    cases ep
    obtain ⟨d, e1, e2⟩ := h2.getV (y vs h1)
    refine ⟨TS.refl _, r, ?_⟩
    rw [List.getD_eq_getElem?_getD, e1]
    exact e2
  st := fun H A t r g => Nat.le_refl _
theorem ai_rev (hg : Gl X "reversed") (hm : X.mg "reversed" = none) (h : AE X a ρ A fun d A1 => ∃ ds, IsL A1 d ds ∧ kI A1 (fun A' => IsL A' d ds) ds.length (fun i => ds.getD (ds.length - 1 - i) .non))
    (hs : starEach [a] X.env = [(false, eval a X.env)] := by rfl) : AI X tg (.Call (.Name "reversed" p0) [a] [] pos) ρ A kI := fun σ H s R q =>
  tmi_of (pi_reversed hg hm (pa_cons (pe_tm a) pa_nil hs) hs) (h σ H s _ fun v H1 d A1 t1 r1 l1 ⟨ds, hl, k1⟩ => by
    obtain ⟨p, vs, rfl, h1, h2⟩ := hl.sq r1 l1
    refine ⟨p, vs, rfl, h1, ?_⟩
    rw [h2.length]
    exact q _ H1 A1 _ _ _ t1 l1 (wk_rev r1) k1)

/-! ### comprehensions -/
def wipeR (ρ : Ro) : List Nat → Ro
  | [] => ρ
  | v :: vs => (wipeR ρ vs).set v none
theorem Sr.wipe {K : Frag} {σ : L2.St} {H : Hp} (s : Sr K ρ A σ H) : ∀ vs : List Nat, Sr K (wipeR ρ vs) A (L2.wipe σ vs) H
  | [] => s
  | v :: vs => (Sr.wipe s vs).unset v
theorem wipe_eq {σ : L2.St} : ∀ {vs : List Nat} {σ' : L2.St}, σ'.length = σ.length → (∀ j : Nat, j ∉ vs → σ'[j]? = σ[j]?) → L2.wipe σ' vs = L2.wipe σ vs := by
  intro vs σ' hl hj
  have key : ∀ (τ : L2.St) (us : List Nat) (j : Nat), (L2.wipe τ us)[j]? = if j ∈ us then (if j < τ.length then some none else none) else τ[j]? := by
    intro τ us j
    induction us with
    | nil => simp [L2.wipe]
    | cons u us ih =>
      rw [L2.wipe, List.getElem?_set, L2.wipe_length]
      by_cases h : u = j
      · subst h
        simp
      · rw [if_neg h, ih]
        have : ¬ j = u := fun z => h z.symm
        simp [this]
  apply List.ext_getElem?
  intro j
  rw [key, key, hl]
  split
  · rfl
  · rename_i h
    exact hj j h
theorem wipe_wipe {σ : L2.St} (vs : List Nat) : L2.wipe (L2.wipe σ vs) vs = L2.wipe σ vs := by
  refine wipe_eq (L2.wipe_length σ vs) fun j hj => ?_
  exact L2.wipe_out hj
/-- over all blocks -/
def blkE (X : Cx) (scope : Scope) (e : Expr) : TE := fun σ H Q => ∀ (s : Shared) (H0 : Hp) (C : Addr) (cl : List (Str × Addr)) (fp : List Addr), TM (X.blk s H0 scope (compEnvC scope cl C X.env) fp) e σ H Q
def blkG (X : Cx) (scope : Scope) (e : Expr) : TG := fun v σ H Q => ∀ (s : Shared) (H0 : Hp) (C : Addr) (cl : List (Str × Addr)) (fp : List Addr), TMG (X.blk s H0 scope (compEnvC scope cl C X.env) fp) e v σ H Q
/-- a comprehension's walk -/
def AC (X : Cx) (elt tg iter : Expr) (scope : Scope) (own : List (Str × Nat)) (ρ : Ro) (A : AH) (k : AK) : Prop := ∀ (σ : L2.St) (H : Hp), Sr X.K ρ A σ H → ∀ Q : VK, (∀ v H' d A', TS H H' → Rp X.K H' v d → Rel X.K A' H' → k d A' → Q v H') →
  tLc (fun σ H R => TMI X tg iter σ H R) (blkG X scope tg) tYes (blkE X scope elt) (own.map (·.2)) σ H Q
theorem AC.ae {tg iter elt : Expr} {scope : Scope} {own : List (Str × Nat)} (hc : X.calm = true) (hN : X.N.Nodup) (ok : BlkOk X.N X.env.scope scope own) (h : AC X elt tg iter scope own ρ A k)
    (hs : ∀ x, foldedSetIterable iter X.env x = pure x := by intro _; rfl) : AE X (.ListComp elt [⟨tg, iter, [], 0⟩] scope pos) ρ A k := fun σ H s Q q =>
  tm_of (pe_lc (g := blkG X scope tg) (tt := tYes) (te := blkE X scope elt) hc hN (pi_tm tg iter) ok (fun s H0 C cl fp => ⟨fun pins s1 σ1 H1 v u Q1 I r h => (h s H0 C cl fp).go pins s1 u I r⟩) (fun _ _ _ _ _ => pts_nil) (fun s H0 C cl fp => ⟨fun pins s1 σ1 H1 Q1 I h => (h s H0 C cl fp).go pins s1 I⟩) hs) (h σ H s Q q)
/-- name = [..], the name a local -/
theorem as_setLc {i : Nat} {y : Str} {py spos : Pos} {tg iter elt : Expr} {scope : Scope} {own : List (Str × Nat)} (hc : X.calm = true) (hN : X.N.Nodup) (hy : X.N[i]? = some y) (hyl : X.env.scope.names.lookup y = some .local)
    (hsw : swapsWith (.ListComp elt [⟨tg, iter, [], 0⟩] scope pos) (some (.Name y py)) spos.line X.env = pure true) (ok : BlkOk X.N X.env.scope scope own) (h : AC X elt tg iter scope own ρ A fun d A' => AS X W rest (ρ.set i (some d)) A' E)
    (hs : ∀ x, foldedSetIterable iter X.env x = pure x := by intro _; rfl) : AS X W (.Assign [.Name y py] (.ListComp elt [⟨tg, iter, [], 0⟩] scope pos) spos :: rest) ρ A E := as_cons fun σ H s D q =>
  tm1_of (ps_setLc (g := blkG X scope tg) (tt := tYes) (te := blkE X scope elt) hc hN hy hyl hsw (pi_tm tg iter) ok (fun s H0 C cl fp => ⟨fun pins s1 σ1 H1 v u Q1 I r h => (h s H0 C cl fp).go pins s1 u I r⟩) (fun _ _ _ _ _ => pts_nil) (fun s H0 C cl fp => ⟨fun pins s1 σ1 H1 Q1 I h => (h s H0 C cl fp).go pins s1 I⟩) hs)
    (h σ H s _ fun v H' d A' t r l kd => q.nx _ A' _ H' t ((s.mono t l).set i r) kd)
theorem AC.weak {tg iter elt : Expr} {scope : Scope} {own : List (Str × Nat)} (h : AC X elt tg iter scope own ρ A fun d A' => ∃ A'', Ext A'' A' ∧ k d A'') : AC X elt tg iter scope own ρ A k := fun σ H s Q hq => h σ H s Q fun v H' d A' t r l ⟨A'', x, q⟩ => hq v H' d A'' t r (l.sub x) q
theorem ac_lc {tg iter elt : Expr} {is : List Nat} {scope : Scope} {own : List (Str × Nat)} (hsub : ∀ i ∈ is, i ∈ own.map (·.2))
    (hi : AI X tg iter ρ A fun A1 G n f => n ≤ sizeLine ∧ ∃ Pv : Addr → Nat → List D → AH → Prop, (∀ p, A1 p = none → Pv p 0 [] (aupd A1 p (.lst []))) ∧ (∀ p i acc A', i ≤ n → Pv p i acc A' → G A' ∧ acc.length = i) ∧
      (∀ p i acc A', i < n → Pv p i acc A' → ∃ ρ2, ∀ (s : Shared) (H : Hp) (C : Addr) (cl : List (Str × Addr)) (fp : List Addr), AG (X.blk s H scope (compEnvC scope cl C X.env) fp) tg is (wipeR ρ (own.map (·.2))) (f i) ρ2 ∧
        AE (X.blk s H scope (compEnvC scope cl C X.env) fp) elt ρ2 A' fun d A2 => A2 p = some (.lst acc) ∧ Pv p (i + 1) (acc ++ [d]) (aupd A2 p (.lst (acc ++ [d])))) ∧
      ∀ p acc A', Pv p n acc A' → k (.ref p) A') : AC X elt tg iter scope own ρ A k := fun σ H s Q q => by
  refine hi σ H s _ fun J H1 A1 G n f t1 l1 wk ⟨hn, Pv, h0, hG, hb, hd⟩ D hD => ?_
  refine ⟨fun i m H' => ∃ acc A', TS H1 H' ∧ Rel X.K A' H' ∧ m = n - i ∧ i ≤ n ∧ Pv D i acc A', ⟨n, [], _, TS.new hD, (l1.newL hD .nil).2, by simp, Nat.zero_le _, h0 D (l1.none hD)⟩, ?_⟩
  rintro i m H2 ⟨acc, A2, t2, l2, rfl, hle, p2⟩
  obtain ⟨g2, ea⟩ := hG D i acc A2 hle p2
  by_cases hlt : i < n
  · refine .inr ⟨wk.go i H2 A2 hlt t2 l2 g2, fun H' => ∃ acc A', TS H1 H' ∧ Rel X.K A' H' ∧ Pv D (i + 1) acc A', ?_, ?_⟩
    · rintro H' ⟨acc, A', t', l', p'⟩
      exact ⟨n - (i + 1), by omega, acc, A', t', l', rfl, hlt, p'⟩
    · intro x H3 y3
      obtain ⟨t3, l3, r3⟩ := wk.yl i H2 A2 x H3 hlt t2 l2 g2 y3
      obtain ⟨ρ2, hb⟩ := hb D i acc A2 hlt p2
      intro s1 H01 C1 cl1 fp1
      have sW : Sr X.K (wipeR ρ (own.map (·.2))) A2 (L2.wipe σ (own.map (·.2))) H3 := (s.mono ((t1.trans t2).trans t3) l3).wipe _
      refine (hb s1 H01 C1 cl1 fp1).1 x _ H3 A2 sW r3 _ fun σ4 hl4 hj4 s4 => ?_
      refine ⟨(wipe_eq hl4 fun j hj => hj4 j fun z => hj (hsub j z)).trans (wipe_wipe _), ?_⟩
      unfold tYes
      dsimp only
      rw [if_pos rfl]
      intro s2 H02 C2 cl2 fp2
      refine (hb s2 H02 C2 cl2 fp2).2 σ4 H3 s4 _ fun v H4 d A4 t4 r4 l4 hp4 => ?_
      obtain ⟨vs, e1, e2⟩ := l4.lst hp4.1
      obtain ⟨t5, l5⟩ := l4.putL e1 (e2.append (.one r4))
      refine ⟨vs, e1, ?_, acc ++ [d], _, ((t2.trans t3).trans t4).trans t5, l5, hp4.2⟩
      rw [e2.length, ea]
      omega
  · have e : i = n := by omega
    subst e
    exact .inl ⟨wk.st H2 A2 t2 l2 g2, q (.ref D) H2 (.ref D) A2 (t1.trans t2) (.ref D) l2 (hd D acc A2 p2)⟩
/-- elements out of many: a new list -/
def AN (X : Cx) (e : Expr) (ρ : Ro) (A : AH) {α : Type} (enc : α → D) (Q : α → Prop) : Prop := ∀ k : AK, (∀ a, Q a → k (enc a) A) → AE X e ρ A k
theorem ac_lcN {α : Type} {enc : α → D} {Q : Nat → α → Prop} {tg iter elt : Expr} {is : List Nat} {scope : Scope} {own : List (Str × Nat)} {n : Nat} (hsub : ∀ i ∈ is, i ∈ own.map (·.2))
    (hi : AI X tg iter ρ A fun A1 G n' f => n' = n ∧ Ext A A1 ∧ n ≤ sizeLine ∧ (∀ A', Ext A1 A' → G A') ∧
      ∀ i, i < n → ∃ ρ2, ∀ (s : Shared) (H : Hp) (C : Addr) (cl : List (Str × Addr)) (fp : List Addr), AG (X.blk s H scope (compEnvC scope cl C X.env) fp) tg is (wipeR ρ (own.map (·.2))) (f i) ρ2 ∧ ∀ A', Ext A1 A' → AN (X.blk s H scope (compEnvC scope cl C X.env) fp) elt ρ2 A' enc (Q i))
    (q : ∀ as : List α, as.length = n → (∀ i a, as[i]? = some a → Q i a) → ∀ p, A p = none → k (.ref p) (aupd A p (.lst (as.map enc)))) : AC X elt tg iter scope own ρ A k := by
  refine AC.weak (ac_lc (is := is) hsub ?_)
  intro σ H s R hR
  refine hi σ H s R fun J H' A1 G n' f t l wk ⟨en, ex, hn, hG, hb⟩ => hR J H' A1 G n' f t l wk ?_
  subst en
  refine ⟨hn, fun p i acc A' => A1 p = none ∧ A' = aupd A1 p (.lst acc) ∧ ∃ as : List α, acc = as.map enc ∧ as.length = i ∧ ∀ j a, as[j]? = some a → Q j a, fun p hp => ⟨hp, rfl, [], rfl, rfl, fun j a h => by simp at h⟩, ?_, ?_, ?_⟩
  · rintro p i acc A' _ ⟨hp, rfl, as, rfl, hl, _⟩
    exact ⟨hG _ (Ext.new hp), by rw [List.length_map]; exact hl⟩
  · rintro p i acc A' hlt ⟨hp, rfl, as, rfl, hl, hq⟩
    obtain ⟨ρ2, hb⟩ := hb i hlt
    refine ⟨ρ2, fun s H C cl fp => ⟨(hb s H C cl fp).1, (hb s H C cl fp).2 _ (Ext.new hp) _ fun a ha => ⟨aupd_same, hp, ?_, as ++ [a], ?_, ?_, ?_⟩⟩⟩
    · rw [aupd_aupd]
    · rw [List.map_append]; rfl
    · rw [List.length_append, hl]; rfl
    · intro j b hj
      by_cases hlt' : j < as.length
      · rw [List.getElem?_append_left hlt'] at hj
        exact hq j b hj
      · rw [List.getElem?_append_right (by omega)] at hj
        have hj0 : j - as.length = 0 := by
          by_cases h0 : j - as.length = 0
          · exact h0
          · rw [List.getElem?_eq_none (by show [a].length ≤ _; simp; omega)] at hj
            exact nomatch hj
        rw [hj0] at hj
        have : a = b := Option.some.inj hj
        subst this
        have : j = i := by omega
        rw [this]
        exact ha
  · rintro p acc A' ⟨hp, rfl, as, rfl, hl, hq⟩
    exact ⟨aupd A p (.lst (as.map enc)), ex.upd p _, q as hl hq p (ex.none hp)⟩
/-- pure elements: a new list -/
theorem ac_lcP {tg iter elt : Expr} {is : List Nat} {scope : Scope} {own : List (Str × Nat)} {g : Nat → D} {n : Nat} (hsub : ∀ i ∈ is, i ∈ own.map (·.2))
    (hi : AI X tg iter ρ A fun A1 G n' f => n' = n ∧ Ext A A1 ∧ n ≤ sizeLine ∧ (∀ A', Ext A1 A' → G A') ∧
      ∀ i, i < n → ∃ ρ2, ∀ (s : Shared) (H : Hp) (C : Addr) (cl : List (Str × Addr)) (fp : List Addr), AG (X.blk s H scope (compEnvC scope cl C X.env) fp) tg is (wipeR ρ (own.map (·.2))) (f i) ρ2 ∧ ∀ A', Ext A1 A' → AV (X.blk s H scope (compEnvC scope cl C X.env) fp) elt ρ2 A' (g i))
    (q : ∀ p, A p = none → k (.ref p) (aupd A p (.lst ((List.range n).map g)))) : AC X elt tg iter scope own ρ A k := by
  refine ac_lcN (is := is) (enc := id) (Q := fun i d => d = g i) (n := n) hsub ?_ fun as hl hq p hp => ?_
  · intro σ H s R hR
    refine hi σ H s R fun J H' A1 G n' f t l wk ⟨en, ex, hn, hG, hb⟩ => hR J H' A1 G n' f t l wk ⟨en, ex, hn, hG, fun i h => ?_⟩
    obtain ⟨ρ2, hb⟩ := hb i h
    exact ⟨ρ2, fun s H C cl fp => ⟨(hb s H C cl fp).1, fun A' x k hk => ((hb s H C cl fp).2 A' x).ae (hk _ rfl)⟩⟩
  · have e : as.map id = (List.range n).map g := by
      rw [List.map_id]
      apply List.ext_getElem?
      intro i
      rw [List.getElem?_map]
      by_cases hi : i < n
      · rw [List.getElem?_eq_getElem (by omega), List.getElem?_range hi]
        exact congrArg some (hq i _ (List.getElem?_eq_getElem (by omega)))
      · rw [List.getElem?_eq_none (by omega), List.getElem?_eq_none (by simp; omega)]
        rfl
    rw [e]
    exact q p hp
theorem al_lc {tg iter elt : Expr} {is : List Nat} {scope : Scope} {own : List (Str × Nat)} {g : Nat → D} {n : Nat} (hc : X.calm = true) (hN : X.N.Nodup) (ok : BlkOk X.N X.env.scope scope own) (hsub : ∀ i ∈ is, i ∈ own.map (·.2))
    (hi : AI X tg iter ρ A fun A1 G n' f => n' = n ∧ Ext A A1 ∧ n ≤ sizeLine ∧ (∀ A', Ext A1 A' → G A') ∧
      ∀ i, i < n → ∃ ρ2, ∀ (s : Shared) (H : Hp) (C : Addr) (cl : List (Str × Addr)) (fp : List Addr), AG (X.blk s H scope (compEnvC scope cl C X.env) fp) tg is (wipeR ρ (own.map (·.2))) (f i) ρ2 ∧ ∀ A', Ext A1 A' → AV (X.blk s H scope (compEnvC scope cl C X.env) fp) elt ρ2 A' (g i))
    (hs : ∀ x, foldedSetIterable iter X.env x = pure x := by intro _; rfl) : AL X (.ListComp elt [⟨tg, iter, [], 0⟩] scope pos) ρ A ((List.range n).map g) := fun k q => (ac_lcP (is := is) (own := own) hsub hi q).ae hc hN ok hs
end
end C7
namespace C7
open PySem PySem.Spec PyProof.Rows L2

/-! ### contracts -/
/-- arguments, what is known, what is wanted of the answer, what is wanted of a refusal's class -/
abbrev Ct := List D → AH → AK → (Value → AH → Prop) → Prop
def spOf (K : Frag) (ct : Ct) : Sp := fun vs H Q E => ∃ ds A k e, Rps K H vs ds ∧ Rel K A H ∧ ct ds A k e ∧ (∀ v H' d A', TS H H' → Rp K H' v d → Rel K A' H' → k d A' → Q v H') ∧ (∀ c H' A', TS H H' → Rel K A' H' → e c A' → E c none H')
structure Fn (P : Program) (w : World) (K : Frag) (mg : Str → Option Value) (base : Heap) (x : Str) (k : Nat) (ct : Ct) : Prop where
  ex : ∃ f fd ps, FnOk P w K mg base (L2N.CX P w) k f fd ps (spOf K ct) ∧ mg x = some (.ref f) ∧ PySem.W.keepIn K (.ref f) = true ∧ Binds K fd ps []
theorem Fn.up {P : Program} {w : World} {K : Frag} {mg : Str → Option Value} {base : Heap} {x : Str} {j k : Nat} {ct : Ct} (F : Fn P w K mg base x j ct) (h : j ≤ k) : Fn P w K mg base x k ct :=
  let ⟨f, fd, ps, F, r⟩ := F.ex; ⟨f, fd, ps, F.mono h, r⟩
/-- an expression that may raise -/
def AEx (X : Cx) (W : WX) (e : Expr) (ρ : Ro) (A : AH) (xc : Value → AH → Prop) (k : AK) : Prop := ∀ (σ : L2.St) (H : Hp), Sr X.K ρ A σ H → ∀ Q : VK, (∀ v H' d A', TS H H' → Rp X.K H' v d → Rel X.K A' H' → k d A' → Q v H') →
  (∀ c H' A', TS H H' → Rel X.K A' H' → xc c A' → W c none σ H') → TM X e σ H Q
theorem passN {X : Cx} : Passes (L2N.CX X.prog X.w) X E0 := fun _ _ _ _ _ _ _ h => by
  obtain ⟨_, _, _, _, _, _, _, _, _, _, _, _, z⟩ := h
  exact z.elim
section
variable {X : Cx} {W : WX} {ρ : Ro} {A : AH} {E : AEnds} {e a b : Expr} {es : List Expr} {pos p0 : Pos} {d x y : D} {k : AK} {n : Str} {ct : Ct} {lv : Nat} {ds : List D} {rest : List Stmt} {xc : Value → AH → Prop}
theorem ae_call (F : Fn X.prog X.w X.K X.mg X.base n lv ct) (hr : Room lv X.A) (hg : Gl X n) (h : AEs X (e :: es) ρ A fun ds A1 => ct ds A1 k fun _ _ => False)
    (hdb : (n == ("__debug__" : Str)) = false := by decide) (he : starEach (e :: es) X.env = (false, eval e X.env) :: starEach es X.env := by rfl) (hpl : (backTo pos (starEach es X.env)).any (·.1) = false := by rfl) :
    AE X (.Call (.Name n p0) (e :: es) [] pos) ρ A k := fun σ H s Q q => by
  obtain ⟨f, fd, ps, F, hm, hk, hb⟩ := F.ex
  refine tm_of (pe_call (E := E0) (dvs := []) F hr hg hm hk hb .nil passN (pa_tm (e :: es)) hdb he hpl) ?_
  refine h σ H s _ fun vs H1 ds A1 t1 r1 l1 h1 => ?_
  refine ⟨ds, A1, k, fun _ _ => False, by rw [List.append_nil]; exact r1, l1, h1, fun v H' d A' t2 r2 l2 k2 => q v H' d A' (t1.trans t2) r2 l2 k2, fun _ _ _ _ _ z => z⟩
theorem ae_call0 (F : Fn X.prog X.w X.K X.mg X.base n lv ct) (hr : Room lv X.A) (hg : Gl X n) (h : ct [] A k fun _ _ => False)
    (hdb : (n == ("__debug__" : Str)) = false := by decide) : AE X (.Call (.Name n p0) [] [] pos) ρ A k := fun σ H s Q q => by
  obtain ⟨f, fd, ps, F, hm, hk, hb⟩ := F.ex
  refine tm_of (pe_call0 (E := E0) (dvs := []) F hr hg hm hk hb .nil passN hdb) ?_
  exact ⟨[], A, k, fun _ _ => False, .nil, s.hp, h, q, fun _ _ _ _ _ z => z⟩
theorem av_call (F : Fn X.prog X.w X.K X.mg X.base n lv ct) (hr : Room lv X.A) (hg : Gl X n) (ha : AVs X (e :: es) ρ A ds) (h : ct ds A (fun d' A' => d' = d ∧ Ext A A') fun _ _ => False)
    (hdb : (n == ("__debug__" : Str)) = false := by decide) (he : starEach (e :: es) X.env = (false, eval e X.env) :: starEach es X.env := by rfl) (hpl : (backTo pos (starEach es X.env)).any (·.1) = false := by rfl) :
    AV X (.Call (.Name n p0) (e :: es) [] pos) ρ A d := AE.av (ae_call F hr hg (ha.aes h) hdb he hpl)
theorem aex_call (F : Fn X.prog X.w X.K X.mg X.base n lv ct) (tk : L2N.Takes X W) (hr : Room lv X.A) (hg : Gl X n) (h : AEs X (e :: es) ρ A fun ds A1 => ct ds A1 k xc)
    (hdb : (n == ("__debug__" : Str)) = false := by decide) (he : starEach (e :: es) X.env = (false, eval e X.env) :: starEach es X.env := by rfl) (hpl : (backTo pos (starEach es X.env)).any (·.1) = false := by rfl) :
    AEx X W (.Call (.Name n p0) (e :: es) [] pos) ρ A xc k := fun σ H s Q q hx => by
  obtain ⟨f, fd, ps, F, hm, hk, hb⟩ := F.ex
  refine tm_of (pe_callS (E := WE W) F hr hg hm hk hb (fun σ => L2N.passAt tk σ) (pa_tm (e :: es)) hdb he hpl) ?_
  refine h σ H s _ fun vs H1 ds A1 t1 r1 l1 h1 => ?_
  exact ⟨ds, A1, k, xc, r1, l1, h1, fun v H' d A' t2 r2 l2 k2 => q v H' d A' (t1.trans t2) r2 l2 k2, fun c H' A' t2 l2 k2 => hx c H' A' (t1.trans t2) l2 k2⟩
theorem AE.aex (h : AE X e ρ A k) : AEx X W e ρ A xc k := fun σ H s Q q _ => h σ H s Q q
theorem a1_retx (h : AEx X W e ρ A (fun c A' => E.xc c ρ A') E.rt) : A1 X W (.Return (some e) pos) ρ A E := fun σ H s D q => tm1_of (ps_ret (pe_tm e)) (h σ H s _ (fun v H' d A' t r l kd => q.rt d A' v H' t l r kd) fun c H' A' t l kd => q.xc c ρ A' σ H' t (s.mono t l) kd)
theorem a1_exprx (h : AEx X W e ρ A (fun c A' => E.xc c ρ A') fun _ A' => E.nx ρ A') (hs : swapsWith e none pos.line X.env = pure false := by rfl) : A1 X W (.Expr e pos) ρ A E := fun σ H s D q =>
  tm1_of (ps_expr (pe_tm e) hs) (h σ H s _ (fun v H' d A' t r l kd => q.nx ρ A' σ H' t (s.mono t l) kd) fun c H' A' t l kd => q.xc c ρ A' σ H' t (s.mono t l) kd)
theorem a1_setx {i : Nat} {pos' : Pos} (hN : X.N.Nodup) (hi : X.N[i]? = some n) (hx : Loc X.env.scope n) (h : AEx X W e ρ A (fun c A' => E.xc c ρ A') fun d A' => E.nx (ρ.set i (some d)) A') (hs : swapsWith e (some (.Name n pos')) pos.line X.env = pure false := by rfl)
    (hf : X.fn n = true ∨ X.env.scope.names.lookup n = some .local := by first | exact .inl rfl | exact .inr rfl | assumption) : A1 X W (.Assign [.Name n pos'] e pos) ρ A E := fun σ H s D q =>
  tm1_of (ps_set (i := i) hN hi hx (pe_tm e) hs hf) (h σ H s _ (fun v H' d A' t r l kd => q.nx _ A' _ H' t ((s.mono t l).set i r) kd) fun c H' A' t l kd => q.xc c ρ A' σ H' t (s.mono t l) kd)
/-- raise X('..') -/
theorem a1_raise {C : Addr} {m : Str} {j : Nat} {p2 : Pos} {B newId initId : String} {bmB : List Value} (hc : X.calm = true) (tk : L2N.Takes X W) (F : ExcBaseFacts B newId initId bmB) (q : PySem.W.excIn X.K C bmB newId = true) (gC : X.mg n = some (.ref C)) (kC : PySem.W.keepIn X.K (.ref C) = true) (r : Raises X (.ref C)) (hg : Gl X n)
    (h : E.xc (.ref C) ρ A) (hdb : (n == ("__debug__" : Str)) = false := by decide) : A1 X W (.Raise (some (.Call (.Name n p0) [.Constant (.str m) j p2] [] pos)) none pos') ρ A E := fun σ H s D qq =>
  tm1_of (L2N.ps_raise hc tk (L2N.pmk_own F q gC kC r hg hdb)) (qq.xc _ ρ A σ H (TS.refl H) s h)
end

/-! ### a def -/
section
variable {P : Program} {w : World} {K : Frag} {mg : Str → Option Value} {base : Heap}
theorem okN {x qual : Str} {st : Stmt} {f : Addr} {fd : FuncData} {N ps : List Str} {k : Nat} {sp : Sp} (F : Fun K x qual st f fd) (S : FnScope N ps (defScope st)) (len : ∀ vs H Q E, sp vs H Q E → vs.length = ps.length)
    (hbody : ∀ (cdv : Value) (A : Around) (outer : List Env) (s : Shared) (H : Hp) (vs : List V) (Q : VK) (E : XK), Room k (A.deeper (envOfC qual (defScope st) s.heap.objs.size f cdv)) → sp vs H Q E →
      ∃ t, PSs (cxOf (L2N.CX P w) P w K mg base N qual (defScope st) f cdv A outer s H E) (defBody st) t ∧ t { nx := fun _ H' => Q .non H', rt := Q } (L2.start N vs) H) : FnOk P w K mg base (L2N.CX P w) (k + 1) f fd ps sp := by
  obtain ⟨oc, od, kV, doc, pm, an, cdv, ct, osl, rfl, lk, hcd⟩ := F.ex
  exact fn_of lk hcd S len fun A outer s H vs Q E hr hsp => hbody cdv A outer s H vs Q E hr hsp
/-- the body of a def keeps a contract -/
abbrev BodyOk (P : Program) (w : World) (K : Frag) (mg : Str → Option Value) (base : Heap) (N : List Str) (qual : Str) (st : Stmt) (f : Addr) (k : Nat) (ct : Ct) : Prop :=
  ∀ (cdv : Value) (A0 : Around) (outer : List Env) (s : Shared) (H : Hp) (E : XK),
      Room k (cxOf (L2N.CX P w) P w K mg base N qual (defScope st) f cdv A0 outer s H E).A → PassesOwn (model P w) (cxOf (L2N.CX P w) P w K mg base N qual (defScope st) f cdv A0 outer s H E).A (cxOf (L2N.CX P w) P w K mg base N qual (defScope st) f cdv A0 outer s H E).env (cxOf (L2N.CX P w) P w K mg base N qual (defScope st) f cdv A0 outer s H E).xe →
      L2N.Takes (cxOf (L2N.CX P w) P w K mg base N qual (defScope st) f cdv A0 outer s H E) (fun cls d _ H => E cls d H) →
      ∀ ds A kk ee, ct ds A kk ee → AS (cxOf (L2N.CX P w) P w K mg base N qual (defScope st) f cdv A0 outer s H E) (fun cls d _ H => E cls d H) (defBody st) (ds.map some ++ List.replicate (N.length - ds.length) none) A { nx := fun _ A' => kk .non A', rt := kk, xc := fun c _ A' => ee c A' }
/-- THE RULE for a def -/
theorem fnok_mk {x qual : Str} {st : Stmt} {f : Addr} {fd : FuncData} {N ps : List Str} {k : Nat} {ct : Ct} (F : Fun K x qual st f fd) (S : FnScope N ps (defScope st))
    (len : ∀ ds A k e, ct ds A k e → ds.length = ps.length) (body : BodyOk P w K mg base N qual st f k ct) : FnOk P w K mg base (L2N.CX P w) (k + 1) f fd ps (spOf K ct) := by
  refine okN F S (fun vs H Q E h => ?_) (fun cdv A0 outer s H vs Q E hr h => ?_)
  · obtain ⟨ds, A, kk, ee, r, _, c, _, _⟩ := h
    rw [r.length]; exact len ds A kk ee c
  · obtain ⟨ds, A, kk, ee, r, l, c, h1, h2⟩ := h
    refine ⟨_, pss_tm _, ?_⟩
    refine body cdv A0 outer s H E hr (passes_of rfl) (L2N.takes_of rfl rfl rfl rfl) ds A kk ee c (L2.start N vs) H ⟨?_, fun i d e => ?_, l⟩ _ ⟨?_, ?_, ?_, ?_, ?_⟩
    · simp [L2.start, r.length]
    · have hl : vs.length = ds.length := r.length
      by_cases hi : i < ds.length
      · rw [List.getElem?_append_left (by simpa using hi), List.getElem?_map] at e
        cases q : ds[i]? with
        | none => rw [q] at e; cases e
        | some d' =>
          rw [q] at e
          cases e
          obtain ⟨v, e1, e2⟩ := r.get q
          refine ⟨v, ?_, e2⟩
          unfold L2.start
          rw [List.getElem?_append_left (by simpa [hl] using hi), List.getElem?_map, e1]
          rfl
      · rw [List.getElem?_append_right (by simpa using hi), List.getElem?_replicate] at e
        split at e <;> cases e
    · intro ρ' A' σ' H' t s' hk
      exact h1 .non H' .non A' t .non s'.hp hk
    · intro d A' v H' t l' r' hk
      exact h1 v H' d A' t r' l' hk
    · intro _ _ _ _ _ _ z; exact z.elim
    · intro _ _ _ _ _ _ z; exact z.elim
    · intro c ρ' A' σ' H' t s' hk
      exact h2 c H' A' t s'.hp hk
/-- what the top has left of a def -/
structure DefF (K : Frag) (mg : Str → Option Value) (x : Str) (st : Stmt) (ps : List Str) : Prop where
  ex : ∃ f fd, Fun K x x st f fd ∧ mg x = some (.ref f) ∧ Binds K fd ps []
theorem fn_mk {x : Str} {st : Stmt} {N ps : List Str} {k : Nat} {ct : Ct} (d : DefF K mg x st ps) (S : FnScope N ps (defScope st))
    (len : ∀ ds A k e, ct ds A k e → ds.length = ps.length) (body : ∀ f, BodyOk P w K mg base N x st f k ct) : Fn P w K mg base x (k + 1) ct := by
  obtain ⟨f, fd, F, hm, hb⟩ := d.ex
  exact ⟨f, fd, ps, fnok_mk F S len (body f), hm, F.kp, hb⟩
theorem def_mk {h : Heap} {x : Str} {st : Stmt} {f : Addr} {ps : List Str} {oc : Value} {od an : Option Addr} {osl : Array (Option Value)} {kV doc pm cdv ct : Value} (X : K.In h) (G : h.Ns mainGlobals mg) (a : PySem.W.nsIn K mainGlobals x = some (some (.ref f)))
    (l : K.lookup f = some ⟨oc, od, .func (PySem.W.fnOf x x (defArgs st) (defBody st) (defScope st) .none kV doc pm an cdv ct), osl⟩) (c : PySem.W.codeIn K cdv x = true) (k : PySem.W.keepIn K (.ref f) = true)
    (hb : ∀ (kV doc pm : Value) (an : Option Addr) (cdv ct : Value) (us : List Value), us.length = ps.length → bindArgs (PySem.W.fnOf x x (defArgs st) (defBody st) (defScope st) .none kV doc pm an cdv ct) ⟨us, []⟩ = pure (ps.zip us)) : DefF K mg x st ps :=
  have F := fun_mk (st := st) l c k
  ⟨f, _, F, PySem.W.mg_of X G a, F.binds hb⟩
/-- the law's own def -/
structure LawF (K : Frag) (mg : Str → Option Value) (st : Stmt) (n : Str) : Prop where
  ex : ∃ f fd, Fun K "law" "law" st f fd ∧ mg "law" = some (.ref f) ∧ ∀ (s : Shared) (v : Value), BindsTo s fd ⟨[v], []⟩ [(n, v)]
theorem law_mk {h : Heap} {st : Stmt} {f : Addr} {n : Str} {oc : Value} {od an : Option Addr} {osl : Array (Option Value)} {kV doc pm cdv ct : Value} (X : K.In h) (G : h.Ns mainGlobals mg) (a : PySem.W.nsIn K mainGlobals "law" = some (some (.ref f)))
    (l : K.lookup f = some ⟨oc, od, .func (PySem.W.fnOf "law" "law" (defArgs st) (defBody st) (defScope st) .none kV doc pm an cdv ct), osl⟩) (c : PySem.W.codeIn K cdv "law" = true) (k : PySem.W.keepIn K (.ref f) = true)
    (hb : ∀ (kV doc pm : Value) (an : Option Addr) (cdv ct : Value) (v : Value), bindArgs (PySem.W.fnOf "law" "law" (defArgs st) (defBody st) (defScope st) .none kV doc pm an cdv ct) ⟨[v], []⟩ = pure [(n, v)]) : LawF K mg st n :=
  ⟨f, _, fun_mk (st := st) l c k, PySem.W.mg_of X G a, fun _ v => .of_eq (hb _ _ _ _ _ _ v)⟩
/-- an own class of refusals, under ValueError -/
structure ExcF (K : Frag) (mg : Str → Option Value) (x : Str) (C : Addr) : Prop where
  g : mg x = some (.ref C)
  x : PySem.W.excIn K C [.type "ValueError", .type "Exception", .type "BaseException", .type "object"] "ValueError.__new__" = true
  k : PySem.W.keepIn K (.ref C) = true
  b : PySem.W.subIn K (.ref C) (.type "BaseException") = some true
  t : PySem.W.typeIn K (.ref C) = some (.type "type")
  d : PySem.W.hasDictIn K C = true
theorem kit_ref {C : Addr} {t : Value} {b : Bool} {x : Str} (e : ExcF K mg x C) (hs : PySem.W.subIn K t (.ref C) = some b) (hb : b = true ∨ (t == .ref C) = false) : PySem.W.kitOne K t (.ref C) = some b := by
  unfold PySem.W.kitOne
  split
  · rename_i h
    rcases hb with rfl | hb
    · rfl
    · rw [hb] at h; cases h
  · obtain ⟨cd, hc, _⟩ := PySem.W.any_some e.d
    show (if ((PySem.W.clsIn K C).isSome && PySem.W.typeIn K (.ref C) == some (.type "type")) = true then PySem.W.subIn K t (.ref C) else none) = some b
    rw [if_pos (by rw [hc, e.t]; rfl)]
    exact hs
theorem kit_type {C : Addr} {T : String} {b : Bool} (hm : PySem.W.kitMeta T = true) (hs : PySem.W.subIn K (.ref C) (.type T) = some b) : PySem.W.kitOne K (.ref C) (.type T) = some b := by
  unfold PySem.W.kitOne
  rw [if_neg (by intro h; cases h)]
  show (if PySem.W.kitMeta T = true then PySem.W.subIn K (.ref C) (.type T) else none) = some b
  rw [if_pos hm]
  exact hs
theorem exm_own {C : Addr} {cls : Value} {b : Bool} {x : Str} (e : ExcF K mg x C) (hs : PySem.W.subIn K cls (.ref C) = some b) : PySem.W.exmOne K cls (.ref C) = some b := PySem.W.exm_ref e.b e.d e.t hs
theorem a1_raiseF {X : Cx} {W : WX} {ρ : Ro} {A : AH} {E : AEnds} {x m : Str} {C : Addr} {j : Nat} {p0 p2 pos pos' : Pos} (e : ExcF X.K X.mg x C) (hc : X.calm = true) (tk : L2N.Takes X W) (hg : Gl X x) (h : E.xc (.ref C) ρ A) (hdb : (x == ("__debug__" : Str)) = false := by decide) :
    A1 X W (.Raise (some (.Call (.Name x p0) [.Constant (.str m) j p2] [] pos)) none pos') ρ A E := a1_raise hc tk PySem.F.excBase_ValueError e.x e.g e.k (raises_own e.b e.t) hg h hdb
/-- the law's contract: of any script, True -/
def ctLaw : Ct := fun ds A k _ => ∃ ns : List Int, ds = [.cl (ns.map D.int)] ∧ ns.length ≤ 63 ∧ ∀ A', k (.bl true) A'
theorem vals_rps {H : Hp} : ∀ ns : List Int, Rps K H (ns.map V.int) (ns.map D.int)
  | [] => .nil
  | n :: ns => .cons (.int n) (vals_rps ns)
theorem walk_c7 {l : PySem.W.OpenLaw} {k : Nat} {q : Program} {loose : List Str} {XP : (Str → Option Value) → Heap → Prop} {YP : World → Heap → Prop} {d : DefRec} {K : Params → PySem.W.Frag} {x : Str}
    (hn : l.most = some 63) (hdf : d.params.defaults = []) (hnm : d.name = "law") (hr : Room k callerA)
    (hY : ∀ (w : World) (h : Heap), YP w h → (K w.params).In h)
    (F : ∀ (w : World) (mg : Str → Option Value) (h : Heap), (K w.params).In h → h.Ns mainGlobals mg → ∃ st, LawF (K w.params) mg st x ∧
        ∀ (base : Heap) (f : Addr) (fd : FuncData), Fun (K w.params) "law" "law" st f fd → FnOk l.prog w (K w.params) mg base (L2N.CX l.prog w) k f fd [x] (spOf (K w.params) ctLaw)) :
    PySem.W.WalkO q loose XP YP l.row.toRowW d [] (fun f vs => PySem.call f vs) := by
  refine walk_of (K := K) (x := x) (CX := fun w => L2N.CX l.prog w) (sp := fun w => spOf (K w.params) ctLaw) hn (by decide) hdf hr hY ?_ ?_ ?_
  · intro w mg fa h KX G hfa
    obtain ⟨st, ⟨f, fd, FF, hm, hb⟩, hF⟩ := F w mg h KX G
    rw [hnm] at hfa
    have e := hfa.symm.trans hm
    cases e
    exact ⟨fd, hb, fun base _ _ => hF base fa fd FF⟩
  · intro w H a ns hl hO hS
    refine ⟨[.cl (ns.map D.int)], fun _ => none, fun d _ => d = .bl true, fun _ _ => False, ?_, fun _ _ z => (nomatch z), ⟨ns, rfl, hl, fun _ => rfl⟩, fun v H' d A' _ r _ q => by rw [q] at r; exact r.bl_of, fun _ _ _ _ _ z => z⟩
    refine .one (.cl (vs := ns.map V.int) ?_ (vals_rps ns))
    rcases hS with (h | h) | h
    · rcases hO a with z | ⟨o, xs, z⟩
      · rw [h] at z; cases z
      · rw [h] at z; cases z
    · exact .inl h
    · exact .inr h
  · intro w H s e s' hx
    obtain ⟨_, _, _, _, _, _, _, _, _, _, _, _, z⟩ := hx
    exact z
end

/-! ### built-ins -/
section
variable {X : Cx} {W : WX} {ρ : Ro} {A : AH} {e a b : Expr} {es : List Expr} {pos p0 : Pos} {d x y : D} {k : AK} {ds : List D} {i j : Int}
theorem rps1 {K : Frag} {H : Hp} {vs : List V} {d : D} (h : Rps K H vs [d]) : ∃ v, vs = [v] ∧ Rp K H v d := by cases h with | cons a b => cases b; exact ⟨_, rfl, a⟩
theorem rps2 {K : Frag} {H : Hp} {vs : List V} {d d' : D} (h : Rps K H vs [d, d']) : ∃ v v', vs = [v, v'] ∧ Rp K H v d ∧ Rp K H v' d' := by
  cases h with
  | cons a b => cases b with | cons b c => cases c; exact ⟨_, _, rfl, a, b⟩
theorem av_abs (hg : Gl X "abs") (hm : X.mg "abs" = none) (ha : AV X a ρ A (.int i)) (hs : starEach [a] X.env = [(false, eval a X.env)] := by rfl) : AV X (.Call (.Name "abs" p0) [a] [] pos) ρ A (.int (if i < 0 then -i else i)) :=
  av_callB call_abs hg hm (by decide +kernel) (avs_cons ha avs_nil hs) (fun vs H r l Q q => by
    obtain ⟨v, rfl, r1⟩ := rps1 r
    rw [r1.int_of]
    exact ⟨i, rfl, q _ H (TS.refl H) (.int _) l⟩) (he := hs) (hpl := rfl)
theorem av_max2 (hc : X.calm = true) (hg : Gl X "max") (hm : X.mg "max" = none) (ha : AVs X [a, b] ρ A [.int i, .int j]) (hs : starEach [a, b] X.env = (false, eval a X.env) :: starEach [b] X.env := by rfl) (hpl : (backTo pos (starEach [b] X.env)).any (·.1) = false := by rfl) : AV X (.Call (.Name "max" p0) [a, b] [] pos) ρ A (.int (if j > i then j else i)) :=
  av_callB (call_max2 hc) hg hm (by decide +kernel) ha (fun vs H r l Q q => by
    obtain ⟨v, v', rfl, r1, r2⟩ := rps2 r
    rw [r1.int_of, r2.int_of]
    exact ⟨i, j, rfl, q _ H (TS.refl H) (.int _) l⟩) (he := hs) (hpl := hpl)
theorem av_min2 (hc : X.calm = true) (hg : Gl X "min") (hm : X.mg "min" = none) (ha : AVs X [a, b] ρ A [.int i, .int j]) (hs : starEach [a, b] X.env = (false, eval a X.env) :: starEach [b] X.env := by rfl) (hpl : (backTo pos (starEach [b] X.env)).any (·.1) = false := by rfl) : AV X (.Call (.Name "min" p0) [a, b] [] pos) ρ A (.int (if j < i then j else i)) :=
  av_callB (call_min2 hc) hg hm (by decide +kernel) ha (fun vs H r l Q q => by
    obtain ⟨v, v', rfl, r1, r2⟩ := rps2 r
    rw [r1.int_of, r2.int_of]
    exact ⟨i, j, rfl, q _ H (TS.refl H) (.int _) l⟩) (he := hs) (hpl := hpl)
theorem ae_len (hg : Gl X "len") (hm : X.mg "len" = none) (h : AE X a ρ A fun d A1 => (∃ ds, IsL A1 d ds ∧ k (.int (ds.length : Nat)) A1) ∨ (∃ ds, d = .tup ds ∧ k (.int (ds.length : Nat)) A1)) (hs : starEach [a] X.env = [(false, eval a X.env)] := by rfl) : AE X (.Call (.Name "len" p0) [a] [] pos) ρ A k :=
  ae_callB call_len_seq hg hm PySem.boot_len (aes_cons (h.mono fun d A1 hd => aes_nil (fun vs H r l Q q => by
    obtain ⟨v, rfl, r1⟩ := rps1 r
    rcases hd with ⟨ds, hl, hk⟩ | ⟨ds, rfl, hk⟩
    · obtain ⟨p, ws, rfl, h1, h2⟩ := hl.sq r1 l
      exact ⟨p, ws, rfl, .inl h1, q _ H _ A1 (TS.refl H) (by rw [h2.length]; exact .int _) l hk⟩
    · obtain ⟨p, ws, rfl, h1, h2⟩ := r1.tup_of
      exact ⟨p, ws, rfl, .inr h1, q _ H _ A1 (TS.refl H) (by rw [h2.length]; exact .int _) l hk⟩)) hs) (he := hs) (hpl := rfl)
theorem av_lenL (hg : Gl X "len") (hm : X.mg "len" = none) (h : AV X a ρ A x) (hl : IsL A x ds) (hs : starEach [a] X.env = [(false, eval a X.env)] := by rfl) : AV X (.Call (.Name "len" p0) [a] [] pos) ρ A (.int (ds.length : Nat)) :=
  AE.av (ae_len hg hm (h.ae (.inl ⟨ds, hl, rfl, Ext.refl A⟩)) hs)
theorem av_lenT (hg : Gl X "len") (hm : X.mg "len" = none) (h : AV X a ρ A (.tup ds)) (hs : starEach [a] X.env = [(false, eval a X.env)] := by rfl) : AV X (.Call (.Name "len" p0) [a] [] pos) ρ A (.int (ds.length : Nat)) :=
  AE.av (ae_len hg hm (h.ae (.inr ⟨ds, rfl, rfl, Ext.refl A⟩)) hs)
theorem av_divmod (hg : Gl X "divmod") (hm : X.mg "divmod" = none) (ha : AVs X [a, b] ρ A [.int i, .int j]) (h : CDivP i j) (hs : starEach [a, b] X.env = (false, eval a X.env) :: starEach [b] X.env := by rfl) (hpl : (backTo pos (starEach [b] X.env)).any (·.1) = false := by rfl) : AV X (.Call (.Name "divmod" p0) [a, b] [] pos) ρ A (.tup [.int (i / j), .int (i % j)]) :=
  av_callB call_divmodW hg hm (by decide +kernel) ha (fun vs H r l Q q => by
    obtain ⟨v, v', rfl, r1, r2⟩ := rps2 r
    rw [r1.int_of, r2.int_of]
    exact ⟨i, j, rfl, h, fun p hp => q _ _ (TS.new hp) (tup_ok (.cons (.int _) (.cons (.int _) .nil)) hp) (l.newT hp)⟩) (he := hs) (hpl := hpl)
theorem ae_list (hg : Gl X "list") (hm : X.mg "list" = none) (h : AE X a ρ A fun d A1 => (∃ ds, IsL A1 d ds ∧ ∀ q, A1 q = none → k (.ref q) (aupd A1 q (.lst ds))) ∨ (∃ ds, d = .tup ds ∧ ∀ q, A1 q = none → k (.ref q) (aupd A1 q (.lst ds)))) (hs : starEach [a] X.env = [(false, eval a X.env)] := by rfl) : AE X (.Call (.Name "list" p0) [a] [] pos) ρ A k :=
  ae_callTy call_list_of hg hm (by decide +kernel) (aes_cons (h.mono fun d A1 hd => aes_nil (fun vs H r l Q q => by
    obtain ⟨v, rfl, r1⟩ := rps1 r
    rcases hd with ⟨ds, hl, hk⟩ | ⟨ds, rfl, hk⟩
    · obtain ⟨p, ws, rfl, h1, h2⟩ := hl.sq r1 l
      exact ⟨p, ws, rfl, .inl h1, fun z hz => q _ _ _ _ (TS.new hz) (.ref z) (l.newL hz h2).2 (hk z (l.none hz))⟩
    · obtain ⟨p, ws, rfl, h1, h2⟩ := r1.tup_of
      exact ⟨p, ws, rfl, .inr h1, fun z hz => q _ _ _ _ (TS.new hz) (.ref z) (l.newL hz h2).2 (hk z (l.none hz))⟩)) hs) (he := hs) (hpl := rfl)
theorem al_listL (hg : Gl X "list") (hm : X.mg "list" = none) (h : AV X a ρ A x) (hl : IsL A x ds) (hs : starEach [a] X.env = [(false, eval a X.env)] := by rfl) : AL X (.Call (.Name "list" p0) [a] [] pos) ρ A ds := fun k q =>
  ae_list hg hm (h.ae (.inl ⟨ds, hl, q⟩)) hs
theorem ae_tupleL (hg : Gl X "tuple") (hm : X.mg "tuple" = none) (h : AE X a ρ A fun d A1 => ∃ ds, IsL A1 d ds ∧ k (.tup ds) A1) (hs : starEach [a] X.env = [(false, eval a X.env)] := by rfl) : AE X (.Call (.Name "tuple" p0) [a] [] pos) ρ A k :=
  ae_callTy call_tuple_of hg hm (by decide +kernel) (aes_cons (h.mono fun d A1 hd => aes_nil (fun vs H r l Q q => by
    obtain ⟨v, rfl, r1⟩ := rps1 r
    obtain ⟨ds, hl, hk⟩ := hd
    obtain ⟨p, ws, rfl, h1, h2⟩ := hl.sq r1 l
    exact ⟨p, ws, rfl, .inl ⟨h1, fun z hz => q _ _ _ _ (TS.new hz) (tup_ok h2 hz) (l.newT hz) hk⟩⟩)) hs) (he := hs) (hpl := rfl)
theorem ae_sum (hc : X.calm = true) (hg : Gl X "sum") (hm : X.mg "sum" = none) (h : AE X a ρ A fun d A1 => ∃ (ns : List Int), IsL A1 d (ns.map D.int) ∧ k (.int ns.sum) A1) (hs : starEach [a] X.env = [(false, eval a X.env)] := by rfl) : AE X (.Call (.Name "sum" p0) [a] [] pos) ρ A k :=
  ae_callB (cr_sum hc) hg hm (by decide +kernel) (aes_cons (h.mono fun d A1 hd => aes_nil (fun vs H r l Q q => by
    obtain ⟨v, rfl, r1⟩ := rps1 r
    obtain ⟨ns, hl, hk⟩ := hd
    obtain ⟨p, ws, rfl, h1, h2⟩ := hl.sq r1 l
    exact ⟨p, ns, rfl, by rw [← h2.ints]; exact h1, q _ H _ A1 (TS.refl H) (.int _) l hk⟩)) hs) (he := hs) (hpl := rfl)
theorem ae_all (hc : X.calm = true) (hg : Gl X "all") (hm : X.mg "all" = none) (h : AE X a ρ A fun d A1 => ∃ (bs : List Bool), IsL A1 d (bs.map D.bl) ∧ k (.bl (bs.all id)) A1) (hs : starEach [a] X.env = [(false, eval a X.env)] := by rfl) : AE X (.Call (.Name "all" p0) [a] [] pos) ρ A k :=
  ae_callB (cr_all hc) hg hm (by decide +kernel) (aes_cons (h.mono fun d A1 hd => aes_nil (fun vs H r l Q q => by
    obtain ⟨v, rfl, r1⟩ := rps1 r
    obtain ⟨ns, hl, hk⟩ := hd
    obtain ⟨p, ws, rfl, h1, h2⟩ := hl.sq r1 l
    exact ⟨p, ns, rfl, by rw [← h2.bls]; exact h1, q _ H _ A1 (TS.refl H) (.bl _) l hk⟩)) hs) (he := hs) (hpl := rfl)
theorem ae_any (hc : X.calm = true) (hg : Gl X "any") (hm : X.mg "any" = none) (h : AE X a ρ A fun d A1 => ∃ (bs : List Bool), IsL A1 d (bs.map D.bl) ∧ k (.bl (bs.any id)) A1) (hs : starEach [a] X.env = [(false, eval a X.env)] := by rfl) : AE X (.Call (.Name "any" p0) [a] [] pos) ρ A k :=
  ae_callB (cr_any hc) hg hm (by decide +kernel) (aes_cons (h.mono fun d A1 hd => aes_nil (fun vs H r l Q q => by
    obtain ⟨v, rfl, r1⟩ := rps1 r
    obtain ⟨ns, hl, hk⟩ := hd
    obtain ⟨p, ws, rfl, h1, h2⟩ := hl.sq r1 l
    exact ⟨p, ns, rfl, by rw [← h2.bls]; exact h1, q _ H _ A1 (TS.refl H) (.bl _) l hk⟩)) hs) (he := hs) (hpl := rfl)
theorem av_intB {bb : Bool} (hg : Gl X "int") (hm : X.mg "int" = none) (h : AV X a ρ A (.bl bb)) (hs : starEach [a] X.env = [(false, eval a X.env)] := by rfl) : AV X (.Call (.Name "int" p0) [a] [] pos) ρ A (.int (if bb then 1 else 0)) :=
  AE.av (ae_callTy call_int1 hg hm (by decide +kernel) (aes_cons (h.ae (aes_nil (fun vs H r l Q q => by
    obtain ⟨v, rfl, r1⟩ := rps1 r
    rw [r1.bl_of]
    exact .inr ⟨bb, rfl, q _ H _ A (TS.refl H) (.int _) l ⟨rfl, Ext.refl A⟩⟩))) hs) (he := hs) (hpl := rfl))
/-- a built-in class, as a value -/
theorem av_ty {n : Str} {U : String} (hg : Gl X n) (hm : X.mg n = none) (hv : bootBuiltins n = some (.type U)) (hn : n ≠ "__name__" := by decide) (hd : (n == ("__debug__" : Str)) = false := by decide) : AV X (.Name n pos) ρ A (.ty U) :=
  av_bltn hg hm hv (v := .ty U) rfl (fun _ => .ty U) hn hd
/-- isinstance -/
inductive TyD (A : AH) : D → String → Prop where
  | non : TyD A .non "NoneType"
  | bl (b : Bool) : TyD A (.bl b) "bool"
  | int (i : Int) : TyD A (.int i) "int"
  | str (x : Str) : TyD A (.str x) "str"
  | tup (ds : List D) : TyD A (.tup ds) "tuple"
  | lst {x : D} {ds : List D} (h : IsL A x ds) : TyD A x "list"
theorem TyD.tyx {K : Frag} {H : Hp} {T : String} {v : V} (t : TyD A d T) (r : Rp K H v d) (l : Rel K A H) : TyX K H v (.type T) := by
  cases t with
  | non => rw [r.non_of]; exact .base .non
  | bl b => rw [r.bl_of]; exact .base (.bl b)
  | int i => rw [r.int_of]; exact .base (.int i)
  | str x => rw [r.str_of]; exact .base (.str x)
  | tup ds =>
    obtain ⟨p, vs, rfl, h1, _⟩ := r.tup_of
    rcases h1 with (h | ⟨o, h⟩) | ⟨o, its, n, h, hc, _⟩
    · exact .base (.tup h)
    · exact .fTuple h
    · exact .kTuple h hc
  | lst h =>
    rcases h with ⟨p, rfl, h⟩ | rfl | rfl
    · rw [r.ref_of]
      obtain ⟨vs, e, _⟩ := l.lst h
      exact .base (.lst e)
    · obtain ⟨p, vs, rfl, h1, _⟩ := r.cl_of
      rcases h1 with ⟨o, h⟩ | ⟨o, its, n, h, hc, _⟩
      · exact .base (.frz h)
      · exact .kList h hc
    · obtain ⟨p, o, vs, rfl, h1, _⟩ := r.fz_of
      exact .base (.frz h1)
theorem av_isi {T U : String} {bb : Bool} (hg : Gl X "isinstance") (hm : X.mg "isinstance" = none) (ha : AVs X [a, b] ρ A [d, .ty U]) (ht : TyD A d T) (hk : kitB T U = some bb) (hs : starEach [a, b] X.env = (false, eval a X.env) :: starEach [b] X.env := by rfl) (hpl : (backTo pos (starEach [b] X.env)).any (·.1) = false := by rfl) :
    AV X (.Call (.Name "isinstance" p0) [a, b] [] pos) ρ A (.bl bb) :=
  av_callB call_isi hg hm (by decide +kernel) ha (fun vs H r l Q q => by
    obtain ⟨v, v', rfl, r1, r2⟩ := rps2 r
    rw [r2.ty_of]
    exact ⟨v, .ty U, .type T, .type U, bb, rfl, .ty U, ht.tyx r1 l, kit_ty hk, q _ H (TS.refl H) (.bl _) l⟩) (he := hs) (hpl := hpl)

/-! ### methods of lists -/
variable {name : Str} {o : Expr} {apos cpos : Pos} {p : Addr}
theorem tyL {K : Frag} {H : Hp} {vs : List V} (h : H p = some (.lst vs)) : tyV K "list" (.ref p) H := .inl ⟨rfl, vs, SqL.of h⟩
theorem ae_append (h : AE X o ρ A fun x A1 => ∃ p, x = .ref p ∧ (∃ ds0, A1 p = some (.lst ds0)) ∧ AE X e ρ A1 fun d A2 => ∃ ds, A2 p = some (.lst ds) ∧ ds.length < sizeLine ∧ k .non (aupd A2 p (.lst (ds ++ [d]))))
    (hbase : attributeBase o "append" X.env (eval o X.env) = eval o X.env := by rfl) (hfew : ((backTo cpos (starEach [e] X.env)).all (fun x => !x.1) && (backToKw cpos (keywordEach [] X.env)).all (fun x => x.1.isSome)
      && decide (([e] : List Expr).length + ([] : List Keyword).length + (if ([] : List Keyword).isEmpty then 0 else 1) < 30)) = true := by rfl)
    (hline : (apos.endLine == cpos.line) = true := by rfl) (hs : starEach [e] X.env = (false, eval e X.env) :: starEach [] X.env := by rfl) (hplain : (backTo cpos (starEach [] X.env)).any (·.1) = false := by rfl) :
    AE X (.Call (.Attribute o "append" apos) [e] [] cpos) ρ A k := fun σ H s Q q =>
  tm_of (pe_bm PySem.F.plainAttrs_list PySem.F.slot_list_append PySem.F.type_list_append mt_append (pe_tm o) (pa_cons (pe_tm e) pa_nil hs) hbase hfew hline hs hplain) (h σ H s _ fun v H1 x A1 t1 r1 l1 ⟨p, e1, ⟨ds0, e0⟩, h1⟩ => by
    subst e1
    rw [r1.ref_of]
    obtain ⟨vs0, e2, _⟩ := l1.lst e0
    refine ⟨tyL e2, h1 σ H1 (s.mono t1 l1) _ fun u H2 d A2 t2 r2 l2 ⟨ds, e3, hz, k2⟩ => ?_⟩
    obtain ⟨vs, e4, r4⟩ := l2.lst e3
    obtain ⟨t5, l5⟩ := l2.putL e4 (r4.append (.one r2))
    exact ⟨p, vs, u, rfl, rfl, e4, by rw [r4.length]; exact hz, q _ _ .non _ ((t1.trans t2).trans t5) .non l5 k2⟩)
theorem ae_bm0L {r : V → List V → Hp → VK → Prop} {id : String} {f : List D → D × List D} (slot : Slot "list" name id) (hty : typeOf (.builtin id) = pure (.type "method_descriptor")) (hm : MtR X id r)
    (hr : ∀ K H p vs ds Q, Rps K H vs ds → H p = some (.lst vs) → (∀ v vs', Rp K H v (f ds).1 → Rps K H vs' (f ds).2 → Q v (upd H p (.lst vs'))) → r (.ref p) [] H Q)
    (h : AE X o ρ A fun x A1 => ∃ p ds, x = .ref p ∧ A1 p = some (.lst ds) ∧ k (f ds).1 (aupd A1 p (.lst (f ds).2)))
    (hbase : attributeBase o name X.env (eval o X.env) = eval o X.env := by rfl) (hline : (apos.endLine == cpos.line) = true := by rfl) : AE X (.Call (.Attribute o name apos) [] [] cpos) ρ A k := fun σ H s Q q =>
  tm_of (pe_bm0 PySem.F.plainAttrs_list slot hty hm (pe_tm o) hbase hline) (h σ H s _ fun v H1 x A1 t1 r1 l1 ⟨p, ds, e1, e0, h1⟩ => by
    subst e1
    rw [r1.ref_of]
    obtain ⟨vs, e2, r2⟩ := l1.lst e0
    refine ⟨tyL e2, hr X.K H1 p vs ds Q r2 e2 fun v vs' hv hvs => ?_⟩
    obtain ⟨t5, l5⟩ := l1.putL (A := A1) e2 hvs
    exact q _ _ _ _ (t1.trans t5) (hv.mono t5) l5 h1)
theorem ae_clear (h : AE X o ρ A fun x A1 => ∃ p ds, x = .ref p ∧ A1 p = some (.lst ds) ∧ k .non (aupd A1 p (.lst [])))
    (hbase : attributeBase o "clear" X.env (eval o X.env) = eval o X.env := by rfl) (hline : (apos.endLine == cpos.line) = true := by rfl) : AE X (.Call (.Attribute o "clear" apos) [] [] cpos) ρ A k :=
  ae_bm0L (f := fun _ => (.non, [])) PySem.F.slot_list_clear PySem.F.type_list_clear mt_clear (fun K H p vs ds Q r e q => ⟨p, vs, rfl, rfl, e, q .non [] .non .nil⟩) h hbase hline
theorem ae_pop (h : AE X o ρ A fun x A1 => ∃ p ds d, x = .ref p ∧ A1 p = some (.lst (ds ++ [d])) ∧ k d (aupd A1 p (.lst ds)))
    (hbase : attributeBase o "pop" X.env (eval o X.env) = eval o X.env := by rfl) (hline : (apos.endLine == cpos.line) = true := by rfl) : AE X (.Call (.Attribute o "pop" apos) [] [] cpos) ρ A k := fun σ H s Q q =>
  tm_of (pe_bm0 PySem.F.plainAttrs_list PySem.F.slot_list_pop PySem.F.type_list_pop mt_pop (pe_tm o) hbase hline) (h σ H s _ fun v H1 x A1 t1 r1 l1 ⟨p, ds, d, e1, e0, h1⟩ => by
    subst e1
    rw [r1.ref_of]
    obtain ⟨vs, e2, r2⟩ := l1.lst e0
    have hl : vs.length = ds.length + 1 := by rw [r2.length]; simp
    obtain ⟨v, g1, g2⟩ := r2.get (i := ds.length) (d := d) (by simp)
    have rd := r2.dropLast
    rw [List.dropLast_concat] at rd
    obtain ⟨t5, l5⟩ := l1.putL (A := A1) e2 rd
    exact ⟨tyL e2, p, vs, v, rfl, rfl, e2, by rw [hl]; exact g1, q _ _ _ _ (t1.trans t5) (g2.mono t5) l5 h1⟩)

/-! ### slices -/
def cutD (xs : List D) (lo hi : Option Int) : List D := (xs.drop (HT.sIx xs.length 0 lo)).take (HT.sIx xs.length xs.length hi - HT.sIx xs.length 0 lo)
theorem Rps.cut {K : Frag} {H : Hp} {vs : List V} (r : Rps K H vs ds) (lo hi : Option Int) : Rps K H (cutV vs lo hi) (cutD ds lo hi) := by
  unfold cutV cutD
  rw [r.length]
  exact (r.drop _).take _
/-- a part of a slice -/
def AO' (X : Cx) (e : Option Expr) (ρ : Ro) (A : AH) (o : Option Int) : Prop := match e, o with
  | none, none => True
  | some e, some i => AV X e ρ A (.int i)
  | _, _ => False
def tmO (X : Cx) : Option Expr → TO
  | none => tNoPart
  | some e => tPart (TM X e)
theorem po_tm (e : Option Expr) : PO X e (tmO X e) := match e with
  | none => po_none
  | some e => po_some (pe_tm e)
theorem AO'.run {e : Option Expr} {o : Option Int} (h : AO' X e ρ A o) {σ : L2.St} {H : Hp} (s : Sr X.K ρ A σ H) {Q : Option Int → Hp → Prop} (q : ∀ H', TS H H' → Rel X.K A H' → Q o H') : tmO X e σ H Q := by
  cases e with
  | none => cases o with
    | none => exact q H (TS.refl H) s.hp
    | some i => exact h.elim
  | some e => cases o with
    | none => exact h.elim
    | some i => exact h σ H s _ fun v H' t r l => ⟨i, r.int_of, q H' t l⟩
theorem ae_slL {lo hi : Option Expr} {lo' hi' : Option Int} {p2 : Pos} (hlo : ∀ A1, Ext A A1 → AO' X lo ρ A1 lo') (hhi : ∀ A1, Ext A A1 → AO' X hi ρ A1 hi') (h : AE X e ρ A fun d A1 => ∃ ds, Ext A A1 ∧ IsL A1 d ds ∧ ∀ q, A1 q = none → k (.ref q) (aupd A1 q (.lst (cutD ds lo' hi')))) :
    AE X (.Subscript e (.Slice lo hi none p2) pos) ρ A k := fun σ H s Q q =>
  tm_of (pe_slice sl_list (pe_tm e) (po_tm lo) (po_tm hi)) (h σ H s _ fun v H1 d A1 t1 r1 l1 ⟨ds, ex, hl, h1⟩ => by
    refine (hlo A1 ex).run (s.mono t1 l1) fun H2 t2 l2 => (hhi A1 ex).run ((s.mono t1 l1).mono t2 l2) fun H3 t3 l3 => ?_
    obtain ⟨p, vs, rfl, g1, g2⟩ := hl.sq ((r1.mono t2).mono t3) l3
    exact ⟨p, vs, rfl, g1, fun z hz => q _ _ _ _ (((t1.trans t2).trans t3).trans (TS.new hz)) (.ref z) (l3.newL hz (g2.cut lo' hi')).2 (h1 z (l3.none hz))⟩)
theorem al_slL {lo hi : Option Expr} {lo' hi' : Option Int} {p2 : Pos} (h : AV X e ρ A x) (hl : IsL A x ds) (hlo : AO' X lo ρ A lo') (hhi : AO' X hi ρ A hi') : AL X (.Subscript e (.Slice lo hi none p2) pos) ρ A (cutD ds lo' hi') := fun k q σ H s Q qq =>
  tm_of (pe_slice sl_list (pe_tm e) (po_tm lo) (po_tm hi)) (h σ H s _ fun v H1 t1 r1 l1 => by
    refine hlo.run (s.mono t1 l1) fun H2 t2 l2 => hhi.run ((s.mono t1 l1).mono t2 l2) fun H3 t3 l3 => ?_
    obtain ⟨p, vs, rfl, g1, g2⟩ := hl.sq ((r1.mono t2).mono t3) l3
    exact ⟨p, vs, rfl, g1, fun z hz => qq _ _ _ _ (((t1.trans t2).trans t3).trans (TS.new hz)) (.ref z) (l3.newL hz (g2.cut lo' hi')).2 (q z (l3.none hz))⟩)
theorem ae_revL {kk : Nat} {p1 p2 p3 : Pos} (h : AE X e ρ A fun d A1 => ∃ ds, IsL A1 d ds ∧ ∀ q, A1 q = none → k (.ref q) (aupd A1 q (.lst ds.reverse))) : AE X (.Subscript e (.Slice none none (some (.UnaryOp .USub (.Constant (.int 1) kk p1) p2)) p3) pos) ρ A k := fun σ H s Q q =>
  tm_of (pe_revL (pe_tm e)) (h σ H s _ fun v H1 d A1 t1 r1 l1 ⟨ds, hl, h1⟩ => by
    obtain ⟨p, vs, rfl, g1, g2⟩ := hl.sq r1 l1
    exact ⟨p, vs, rfl, g1, fun z hz => q _ _ _ _ (t1.trans (TS.new hz)) (.ref z) (l1.newL hz g2.reverse).2 (h1 z (l1.none hz))⟩)
/-- xs + ys -/
theorem ae_cat (h : AE X a ρ A fun x A1 => AE X b ρ A1 fun y A2 => ∃ p q xs ys, x = .ref p ∧ y = .ref q ∧ A2 p = some (.lst xs) ∧ A2 q = some (.lst ys) ∧ xs.length + ys.length ≤ sizeLine ∧ ∀ z, A2 z = none → k (.ref z) (aupd A2 z (.lst (xs ++ ys)))) : AE X (.BinOp a .Add b pos) ρ A k :=
  ae_op op_cat (h.mono fun x A1 h1 => h1.mono fun y A2 ⟨p, q, xs, ys, e1, e2, h2, h3, hz, hk⟩ v u H r1 r2 l Q qq => by
    subst e1 e2
    rw [r1.ref_of, r2.ref_of]
    obtain ⟨vs, g1, g2⟩ := l.lst h2
    obtain ⟨ws, g3, g4⟩ := l.lst h3
    exact ⟨p, q, vs, ws, rfl, rfl, g1, g3, by rw [g2.length, g4.length]; exact hz, fun z hz => qq _ _ _ _ (TS.new hz) (.ref z) (l.newL hz (g2.append g4)).2 (hk z (l.none hz))⟩)
end
end C7
namespace C7
open PySem PySem.Spec PyProof.Rows L2

/-! ### sizes -/
theorem bt_log {i : Int} {n : Nat} (h : i.natAbs < 2 ^ n) (h0 : 0 < n) : i.natAbs.log2 < n := PySem.Flt.log2_lt_of h0 h
theorem bt_mul {i j : Int} {a b : Nat} (ha : i.natAbs < 2 ^ a) (hb : j.natAbs < 2 ^ b) : (i * j).natAbs < 2 ^ (a + b) := wide_lt ha hb
theorem bt_add {i j : Int} {a b : Nat} (ha : i.natAbs < 2 ^ a) (hb : j.natAbs < 2 ^ b) : (i + j).natAbs < 2 ^ (max a b + 1) := by
  have h1 : 2 ^ a ≤ 2 ^ max a b := Nat.pow_le_pow_right (by decide) (Nat.le_max_left _ _)
  have h2 : 2 ^ b ≤ 2 ^ max a b := Nat.pow_le_pow_right (by decide) (Nat.le_max_right _ _)
  have h3 := Int.natAbs_add_le i j
  rw [Nat.pow_succ]
  omega
theorem bt_neg {i : Int} {a : Nat} (ha : i.natAbs < 2 ^ a) : (-i).natAbs < 2 ^ a := by rw [Int.natAbs_neg]; exact ha
theorem bt_sub {i j : Int} {a b : Nat} (ha : i.natAbs < 2 ^ a) (hb : j.natAbs < 2 ^ b) : (i - j).natAbs < 2 ^ (max a b + 1) := by
  rw [Int.sub_eq_add_neg]
  exact bt_add ha (bt_neg hb)
theorem bt_le {i : Int} {a b : Nat} (ha : i.natAbs < 2 ^ a) (h : a ≤ b) : i.natAbs < 2 ^ b := Nat.lt_of_lt_of_le ha (Nat.pow_le_pow_right (by decide) h)
theorem bt_mod {i j : Int} {a : Nat} (h0 : 0 < j) (ha : j.natAbs < 2 ^ a) : (i % j).natAbs < 2 ^ a := by
  have h1 := Int.emod_nonneg i (show j ≠ 0 by omega)
  have h2 := Int.emod_lt_of_pos i h0
  omega
theorem bt_div {i j : Int} {a : Nat} (h0 : 0 < j) (ha : i.natAbs < 2 ^ a) : (i / j).natAbs < 2 ^ (a + 1) := by
  have h1 := Int.natAbs_ediv_le_natAbs i j
  have h2 : (2 : Nat) ^ a ≤ 2 ^ (a + 1) := Nat.pow_le_pow_right (by decide) (Nat.le_succ _)
  omega
theorem mulx {i j : Int} {a b : Nat} (ha : i.natAbs < 2 ^ a) (hb : j.natAbs < 2 ^ b) (h : a + b ≤ 134217728) : CMulX i j := mulx_ok ha hb h
theorem divw {i j : Int} {b : Nat} (h : 0 < j) (hb : j.natAbs < 2 ^ b) (h0 : 0 < b) (h9 : b ≤ 9000) : CDivW i j := wide_div h hb h0 h9
theorem divp {i j : Int} (h : 0 < j) (hb : j.natAbs < 2 ^ 9000) : CDivP i j := ⟨h, PyProof.noPylong_of_log2 (bt_log hb (by decide))⟩

/-! ### shares: the rational numbers -/
def sh (q : Rat) : D := .tup [.int q.num, .int (q.den : Int)]
/-- a pair of whole numbers -/
def pr (a b : Int) : D := .tup [.int a, .int b]
structure Sz (m : Nat) (q : Rat) : Prop where
  n : q.num.natAbs < 2 ^ m
  d : q.den < 2 ^ m
theorem Sz.up {m n : Nat} {q : Rat} (h : Sz m q) (l : m ≤ n) : Sz n q :=
  ⟨Nat.lt_of_lt_of_le h.n (Nat.pow_le_pow_right (by decide) l), Nat.lt_of_lt_of_le h.d (Nat.pow_le_pow_right (by decide) l)⟩
theorem rat_eq (q : Rat) : q = (q.num : Rat) / (q.den : Rat) := by
  have h := Rat.num_divInt_den q
  rw [Rat.divInt_eq_div] at h
  exact h.symm.trans (by push_cast; rfl)
theorem den_pos (q : Rat) : (0 : Int) < (q.den : Int) := by have := q.den_pos; omega
theorem num_mul {q : Rat} {N D : Int} (hD : D ≠ 0) (h : q = (N : Rat) / (D : Rat)) : q.num * D = N * q.den := by
  have hq := rat_eq q
  have h1 : (q.den : Rat) ≠ 0 := by
    have := q.den_pos
    exact_mod_cast (show (q.den : Int) ≠ 0 by omega)
  have h2 : (D : Rat) ≠ 0 := by exact_mod_cast hD
  have h3 : (q.num : Rat) * D = N * q.den := by
    have : (q.num : Rat) / q.den = N / D := hq.symm.trans h
    grind
  exact_mod_cast h3
theorem sz_div {q : Rat} {N D : Int} {m : Nat} (hD : D ≠ 0) (h : q = (N : Rat) / (D : Rat)) (hN : N.natAbs < 2 ^ m) (hDm : D.natAbs < 2 ^ m) : Sz m q := by
  have e := num_mul hD h
  have cop := q.reduced
  have d1 : q.den ∣ D.natAbs := by
    have : q.den ∣ q.num.natAbs * D.natAbs := by
      rw [← Int.natAbs_mul, e, Int.natAbs_mul]
      exact Nat.dvd_mul_left _ _
    exact Nat.Coprime.dvd_of_dvd_mul_left cop.symm this
  have hDp : 0 < D.natAbs := by omega
  have l1 := Nat.le_of_dvd hDp d1
  refine ⟨?_, by omega⟩
  by_cases hN0 : N = 0
  · subst hN0
    rw [Int.zero_mul] at e
    have z : q.num = 0 := by
      rcases Int.mul_eq_zero.mp e with z | z
      · exact z
      · exact absurd z hD
    rw [z]
    exact Nat.pow_pos (by decide)
  · have d2 : q.num.natAbs ∣ N.natAbs := by
      have : q.num.natAbs ∣ N.natAbs * q.den := by
        have e' : N.natAbs * q.den = (N * (q.den : Int)).natAbs := by rw [Int.natAbs_mul]; rfl
        rw [e', ← e, Int.natAbs_mul]
        exact Nat.dvd_mul_right _ _
      exact Nat.Coprime.dvd_of_dvd_mul_right cop this
    have l2 := Nat.le_of_dvd (by omega) d2
    omega
theorem Sz.num {m : Nat} {q : Rat} (h : Sz m q) : q.num.natAbs < 2 ^ m := h.n
theorem Sz.den {m : Nat} {q : Rat} (h : Sz m q) : ((q.den : Int)).natAbs < 2 ^ m := by rw [Int.natAbs_natCast]; exact h.d
theorem den_ne (q : Rat) : (q.den : Rat) ≠ 0 := by
  have := q.den_pos
  exact_mod_cast (show (q.den : Int) ≠ 0 by omega)
theorem sz_add {m n : Nat} {p q : Rat} (hp : Sz m p) (hq : Sz n q) : Sz (m + n + 1) (p + q) := by
  have h1 := rat_eq p
  have h2 := rat_eq q
  have h3 := den_ne p
  have h4 := den_ne q
  refine sz_div (N := p.num * q.den + q.num * p.den) (D := (p.den : Int) * q.den) (by have := den_pos p; have := den_pos q; exact Int.ne_of_gt (Int.mul_pos ‹_› ‹_›)) ?_ ?_ ?_
  · have e1 : ((p.num * q.den + q.num * p.den : Int) : Rat) = (p.num : Rat) * (q.den : Rat) + q.num * (p.den : Rat) := by push_cast; rfl
    have e2 : (((p.den : Int) * q.den : Int) : Rat) = (p.den : Rat) * (q.den : Rat) := by push_cast; rfl
    rw [e1, e2]
    grind
  · refine bt_le (bt_add (bt_mul hp.num hq.den) (bt_mul hq.num hp.den)) (by omega)
  · exact bt_le (bt_mul hp.den hq.den) (by omega)
theorem sz_neg {m : Nat} {p : Rat} (hp : Sz m p) : Sz m (-p) := ⟨by rw [Rat.neg_num, Int.natAbs_neg]; exact hp.n, by rw [Rat.neg_den]; exact hp.d⟩
theorem sz_sub {m n : Nat} {p q : Rat} (hp : Sz m p) (hq : Sz n q) : Sz (m + n + 1) (p - q) := by
  rw [Rat.sub_eq_add_neg]
  exact sz_add hp (sz_neg hq)
theorem sz_mul {m n : Nat} {p q : Rat} (hp : Sz m p) (hq : Sz n q) : Sz (m + n) (p * q) := by
  have h1 := rat_eq p
  have h2 := rat_eq q
  have h3 := den_ne p
  have h4 := den_ne q
  refine sz_div (N := p.num * q.num) (D := (p.den : Int) * q.den) (by have := den_pos p; have := den_pos q; exact Int.ne_of_gt (Int.mul_pos ‹_› ‹_›)) ?_ ?_ ?_
  · have e1 : ((p.num * q.num : Int) : Rat) = (p.num : Rat) * (q.num : Rat) := by push_cast; rfl
    have e2 : (((p.den : Int) * q.den : Int) : Rat) = (p.den : Rat) * (q.den : Rat) := by push_cast; rfl
    rw [e1, e2]
    grind
  · exact bt_mul hp.num hq.num
  · exact bt_mul hp.den hq.den
/-- a pair in lowest terms is its own share -/
theorem num_den {q : Rat} {a b : Int} (hb : 0 < b) (hc : a.natAbs.gcd b.natAbs = 1) (h : q = (a : Rat) / (b : Rat)) : q.num = a ∧ (q.den : Int) = b := by
  have e := num_mul (show b ≠ 0 by omega) h
  have d1 : q.den ∣ b.natAbs := by
    have : q.den ∣ q.num.natAbs * b.natAbs := by
      rw [← Int.natAbs_mul, e, Int.natAbs_mul]
      exact Nat.dvd_mul_left _ _
    exact Nat.Coprime.dvd_of_dvd_mul_left q.reduced.symm this
  have d2 : b.natAbs ∣ q.den := by
    have : b.natAbs ∣ a.natAbs * q.den := by
      have e' : a.natAbs * q.den = (a * (q.den : Int)).natAbs := by rw [Int.natAbs_mul]; rfl
      rw [e', ← e, Int.natAbs_mul]
      exact Nat.dvd_mul_left _ _
    exact Nat.Coprime.dvd_of_dvd_mul_left (Nat.Coprime.symm hc) this
  have e3 : q.den = b.natAbs := Nat.dvd_antisymm d1 d2
  have e4 : (q.den : Int) = b := by omega
  refine ⟨?_, e4⟩
  rw [e4] at e
  exact Int.eq_of_mul_eq_mul_right (by omega) e
theorem share_eq {t b : Int} (hb : 0 < b) : D.tup [.int (t / (Nat.gcd t.natAbs b.natAbs : Nat)), .int (b / (Nat.gcd t.natAbs b.natAbs : Nat))] = sh ((t : Rat) / (b : Rat)) := by
  have hbn : 0 < b.natAbs := by omega
  have hg : 0 < Nat.gcd t.natAbs b.natAbs := Nat.gcd_pos_of_pos_right _ hbn
  have hg' : (0 : Int) < (Nat.gcd t.natAbs b.natAbs : Nat) := by omega
  have d1 : ((Nat.gcd t.natAbs b.natAbs : Nat) : Int) ∣ t := Int.ofNat_dvd_left.mpr (Nat.gcd_dvd_left _ _)
  have d2 : ((Nat.gcd t.natAbs b.natAbs : Nat) : Int) ∣ b := Int.ofNat_dvd_left.mpr (Nat.gcd_dvd_right _ _)
  have e1 := Int.ediv_mul_cancel d1
  have e2 := Int.ediv_mul_cancel d2
  have n1 : (t / (Nat.gcd t.natAbs b.natAbs : Nat)).natAbs = t.natAbs / Nat.gcd t.natAbs b.natAbs := by
    rw [Int.natAbs_ediv_of_dvd d1]; rfl
  have n2 : (b / (Nat.gcd t.natAbs b.natAbs : Nat)).natAbs = b.natAbs / Nat.gcd t.natAbs b.natAbs := by
    rw [Int.natAbs_ediv_of_dvd d2]; rfl
  have hpos : 0 < b / (Nat.gcd t.natAbs b.natAbs : Nat) := Int.ediv_pos_of_pos_of_dvd hb (by omega) d2
  have hq : (t : Rat) / (b : Rat) = ((t / (Nat.gcd t.natAbs b.natAbs : Nat) : Int) : Rat) / ((b / (Nat.gcd t.natAbs b.natAbs : Nat) : Int) : Rat) := by
    generalize hG : ((Nat.gcd t.natAbs b.natAbs : Nat) : Int) = g at e1 e2 hpos hg'
    have c1 : (((t / g : Int)) : Rat) * (g : Rat) = (t : Rat) := by exact_mod_cast e1
    have c2 : (((b / g : Int)) : Rat) * (g : Rat) = (b : Rat) := by exact_mod_cast e2
    have z1 : (g : Rat) ≠ 0 := by exact_mod_cast (show g ≠ 0 by omega)
    have z2 : ((b / g : Int) : Rat) ≠ 0 := by exact_mod_cast (show b / g ≠ 0 by omega)
    rw [← c1, ← c2]
    grind
  have hc : (t / (Nat.gcd t.natAbs b.natAbs : Nat)).natAbs.gcd (b / (Nat.gcd t.natAbs b.natAbs : Nat)).natAbs = 1 := by
    rw [n1, n2]
    exact Nat.gcd_div_gcd_div_gcd_of_pos_right hbn
  obtain ⟨h1, h2⟩ := num_den hpos hc hq
  unfold sh
  rw [h1, h2]
end C7
namespace C7
open PySem PySem.Spec PyProof.Rows L2 HotX

/-! ### a list's end, and any(..), while an exception is handled -/
section
variable {prog : Program} {w : World} {A : Around} {E : Value → Shared → Prop} {s : Shared}
theorem list_end_hot {it l x1 : Addr} {i : Nat} {items : Array Value} {Q : Option Value → Shared → Prop} (hot : HotAt A x1 s.heap) (hne : x1 ≠ it)
    (hit : s.heap.IsListIter it l i) (hl : s.heap.IsList l items) (hx : items[i]? = none)
    (hQ : ∀ h', Heap.ExtBut it s.heap h' → Q none { s with heap := h' }) : wpAny (model prog w) A (pyNext (.ref it)) Q E s := by
  obtain ⟨o, ho, hc, hd⟩ := id hit; obtain ⟨ol, hol, _, nl, hdl⟩ := hl; obtain ⟨hh, o1, vs1, h1, d1, c1⟩ := hot
  unfold pyNext
  refine wpAny_bind (wpAny_attempt (wpAny_callSpecial?_slot (name := Str.ofString "__next__") hit.typeIs slot_listiter_next (wpAny_call_entry slot_listiter_next hit.typeIs entry_listiter_next ?_ (args_listiter_next _))))
  show wpAny _ _ (field (.ref it) 0 >>= _) _ _ s; refine wpAny_bind (wpAny_field ho hd (x := .ref l) rfl ?_)
  show wpAny _ _ (if (Value.ref l == Value.none) = true then _ else _) _ _ s; rw [if_neg (show ¬ ((Value.ref l == Value.none) = true) from Bool.false_ne_true)]
  show wpAny _ _ (field (.ref it) 1 >>= _) _ _ s; refine wpAny_bind (wpAny_field ho hd (x := .int i 0) rfl ?_)
  show wpAny _ _ (seqItems? (.ref l) >>= _) _ _ s; refine wpAny_bind (wpAny_seqItems hol hdl ?_); simp only [Int.toNat_natCast, hx]
  refine wpAny_bind (wpAny_rule (wpAny_bind (wpAny_setField ho hd (by simp) ?_))); show wpAny _ _ (newExc (.type "StopIteration") [] >>= _) _ _ _
  refine wpAny_bind ?_; simp only [newExc, newTuple]; refine wpAny_bind (wpAny_newObj_type ?_ (by size_fits))
  refine wpAny_bind (m := firstArgMember _ _) (wpAny_of_eq (a := Value.none) (by first | rfl | (simp only [firstArgMember]; rfl)) ?_); refine wpAny_newObj_type ?_ (by size_fits)
  have g1 : ∀ f, (s.heap.update it f).get? x1 = some o1 := fun f => by rw [Heap.get?_update_other _ _ hne.symm]; exact h1
  refine raiseNew_hot ⟨hh, o1, vs1, Heap.get?_push_of_some _ (Heap.get?_push_of_some _ (g1 _)), d1, c1⟩ (Nat.ne_of_lt (Heap.lt_size (Heap.get?_push_of_some _ (g1 _)))) (Heap.get?_push_size _ rfl) rfl (by first | (simp; done) | (simp; omega) | (simp only [Array.size_append]; simp; omega)) ?_
  refine wpAny_bind (wpAny_isInstance (T := "StopIteration") (b := true) ⟨_, Heap.get?_update_self _ (Heap.get?_push_size _ rfl) rfl, rfl⟩ isSubtype_stop ?_); refine wpAny_pure (hQ _ ?_)
  intro b ob hb e
  have e1 : ∀ g, (s.heap.update it g).get? b = some ob := fun g => by rw [Heap.get?_update_other _ _ (Ne.symm hb)]; exact e
  rw [Heap.get?_update_other _ _ (Nat.ne_of_gt (Heap.lt_size (Heap.get?_push_of_some _ (e1 _))))]
  exact Heap.get?_push_of_some _ (Heap.get?_push_of_some _ (e1 _))
theorem walks_listH (I ax x1 : Addr) (o1 : Obj) (hne : ax ≠ I) (hx : x1 ≠ I) (hot : A.handled = some (.ref x1)) (vs : Array Value) (d1 : o1.data = .fields vs) (c1 : vs[2]? = some .none) (items : Array Value) :
    Walks prog w A I [I, ax, x1] [I] items.size (fun i v => items[i]? = some v) (fun i h => h.IsListIter I ax i ∧ h.IsList ax items ∧ h.get? x1 = some o1) where
  sub := fun b hb => by simp at hb; simp [hb]
  frame := fun _ _ _ st hk => ⟨st.1.at fun o e => hk I (by simp) o e, st.2.1.at fun o e => hk ax (by simp) o e, hk x1 (by simp) o1 st.2.2⟩
  item := fun i s Q E hi st hQ => by
    refine wpAny_pyNext_list_item st.1 st.2.1 (x := items[i]) (by simp [hi]) fun h' hit' hs' => ?_
    exact hQ _ h' s.toks (by simp [hi]) ⟨hit', st.2.1.extBut hs'.extBut hne, hs'.extBut x1 o1 hx st.2.2⟩ fun b o hb e => hs'.extBut b o (fun h => hb (by simp [h])) e
  done := fun s Q E st hQ => list_end_hot ⟨hot, o1, vs, st.2.2, d1, c1⟩ hx st.1 st.2.1 (by simp) fun h' he' => hQ h' s.toks fun b o hb e => he' b o (fun h => hb (by simp [h])) e
  self := fun _ _ _ _ st hQ => wpAny_pyIter_listiter st.1 hQ
end
section
variable {X : Cx}
theorem cr_anyH {a : Addr} {oe : Obj} {pn : List (Addr × Obj)} {cls : Value} {dd : Option Addr} (hz : L2N.Zn cls dd oe) (hf : ∃ vs, oe.data = .fields vs) : CallR (X.suite a ((a, oe) :: pn)) (.builtin "any") (rAny X.K) := by
  intro pins s σ H vs us Q I r h
  obtain ⟨l, bs, rfl, hs, q⟩ := h
  obtain ⟨its, rv, hl, _⟩ := I.list hs
  rw [Vals.ref1 r]
  have hb := rv.bls
  obtain ⟨fv, hfv⟩ := hf
  obtain ⟨hget, _⟩ := I.pin (a, oe) (List.mem_append.mpr (.inl List.mem_cons_self))
  refine call_any_walk (iter_any hl.isList fun s₂ e2 st hne => ?_)
  subst e2
  have hlt : a ≠ s.heap.objs.size := Nat.ne_of_lt (Heap.lt_size hget)
  refine ⟨_, _, _, _, _, _, _, rfl, walks_listH (A := (X.suite a ((a, oe) :: pn)).A.in1) _ l a oe hne hlt rfl fv hfv (hz.2.2 fv hfv) its.toArray, ⟨st.1, st.2, Heap.get?_push_of_some _ hget⟩, truth_bools hb, fun h' tk hk => ?_⟩
  refine ⟨.bl _, H, I.kept fun b o eo => hk b o (fun hmem => ?_) (Heap.get?_push_of_some _ eo), ?_, q⟩
  · rcases List.mem_cons.mp hmem with e1 | hmem
    · exact absurd (e1 ▸ Heap.lt_size eo) (Nat.lt_irrefl _)
    · cases hmem
  · show Value.bool _ = Value.bool _
    rw [← L2.any_range, hb, List.size_toArray, List.length_map]
end

/-! ### try: body, except x as n: suite -/
section
variable {X : Cx} {W : WX} {ρ : Ro} {A : AH} {E : AEnds} {x n : Str} {c : Value} {i : Nat} {body suite : List Stmt} {b₀ : Stmt} {np pos pos' : Pos}
/-- what is wanted of an exception of the body -/
def TryX (X : Cx) (c : Value) (i : Nat) (suite : List Stmt) (E : AEnds) : Value → Ro → AH → Prop := fun cls ρ' A' =>
  ∃ b, PySem.W.exmOne X.K cls c = some b ∧ (b = true → ∀ (a : Addr) (oe : Obj) (pn : List (Addr × Obj)), A' a = none → L2N.Zn cls none oe → (∃ vs, oe.data = .fields vs) →
    AS (X.suite a ((a, oe) :: pn)) (fun _ _ _ _ => False) suite (ρ'.set i (some (.ref a))) A' { nx := fun ρ2 A2 => E.nx (ρ2.set i none) A2, rt := E.rt, bk := fun ρ2 A2 => E.bk (ρ2.set i none) A2, ct := fun ρ2 A2 => E.ct (ρ2.set i none) A2 }) ∧
    (b = false → E.xc cls ρ' A')
theorem a1_try (hs : X.stack = X.env :: X.outer) (hf : X.env.frame = some X.env.locals) (hN : X.N.Nodup) (hi : X.N[i]? = some n) (hln : X.env.kindOf n = some .local) (hc : Names X x c) (tk : L2N.Takes X W)
    (hb : ∀ (W' : WX) (pn : List (Addr × Obj)) (xe : Value → Shared → Prop), L2N.Takes (X.tr pn xe) W' → PassesOwn (model X.prog X.w) X.A X.env xe → AS (X.tr pn xe) W' body ρ A { E with xc := TryX X c i (b₀ :: suite) E }) :
    A1 X W (.Try body [.ExceptHandler (some (.Name x np)) (some n) (b₀ :: suite) pos'] [] [] pos) ρ A E := fun σ H s D q => by
  refine tm1_of (L2N.ps_try_as (c := c) (tb := fun W' D σ H => ∀ (pn : List (Addr × Obj)) (xe : Value → Shared → Prop), L2N.Takes (X.tr pn xe) W' → PassesOwn (model X.prog X.w) X.A X.env xe → TMs (X.tr pn xe) body D σ H)
    (ts := fun a cls d D σ H => ∀ (oe : Obj) (pn : List (Addr × Obj)), L2N.Zn cls d oe → (∃ vs, oe.data = .fields vs) → TMs (X.suite a ((a, oe) :: pn)) (b₀ :: suite) D σ H) hs hf hN hi hln hc tk
    (fun W' pn xe t p => ⟨fun pins s1 σ1 H1 D1 I1 h1 => (h1 pn xe t p).go pins s1 I1⟩) (fun a oe cls d pn z f => ⟨fun pins s1 σ1 H1 D1 I1 h1 => (h1 oe pn z f).go pins s1 I1⟩)) ?_
  intro pn xe t p
  refine hb _ pn xe t p σ H s D ⟨q.nx, q.rt, q.bk, q.ct, ?_⟩
  intro cls ρ' A' σ' H' t' s' ⟨b, e1, h1, h2⟩
  refine ⟨b, e1, fun hb' a ha oe pn z f => ?_, fun hb' => q.xc cls ρ' A' σ' H' t' s' (h2 hb')⟩
  refine h1 hb' a oe pn (s'.hp.none ha) z f _ H' (s'.set i (.ref a)) _ ⟨?_, ?_, ?_, ?_, ?_⟩
  · intro ρ2 A2 σ2 H2 t2 s2 k2
    exact q.nx _ A2 _ H2 (t'.trans t2) (s2.unset i) k2
  · intro d A2 v H2 t2 l2 r2 k2
    exact q.rt d A2 v H2 (t'.trans t2) l2 r2 k2
  · intro ρ2 A2 σ2 H2 t2 s2 k2
    exact q.bk _ A2 _ H2 (t'.trans t2) (s2.unset i) k2
  · intro ρ2 A2 σ2 H2 t2 s2 k2
    exact q.ct _ A2 _ H2 (t'.trans t2) (s2.unset i) k2
  · intro _ _ _ _ _ _ _ z
    exact z.elim
end

/-! ### isinstance of the caught error -/
section
variable {X : Cx} {ρ : Ro} {A : AH} {e a b : Expr} {pos p0 : Pos} {k : AK} {D0 p : Addr} {oe : Obj} {pn : List (Addr × Obj)}
theorem av_isE {c : D} {cv : Value} {bb : Bool} (C : ExcC X.K D0) (hz : L2N.Zn (.ref D0) none oe) (hf : ∃ vs, oe.data = .fields vs) (hg : Gl X "isinstance") (hm : X.mg "isinstance" = none)
    (ha : AVs (X.suite p ((p, oe) :: pn)) [a, b] ρ A [.ref p, c]) (hc : ∀ H v, Rp X.K H v c → ∀ u, RelV v u → u = cv) (hk : PySem.W.kitOne X.K (.ref D0) cv = some bb)
    (hs : starEach [a, b] X.env = (false, eval a X.env) :: starEach [b] X.env := by rfl) (hpl : (backTo pos (starEach [b] X.env)).any (·.1) = false := by rfl) :
    AV (X.suite p ((p, oe) :: pn)) (.Call (.Name "isinstance" p0) [a, b] [] pos) ρ A (.bl bb) :=
  av_callB (call_isE C hz.zc hf) hg hm (by decide +kernel) ha (fun vs H r l Q q => by
    obtain ⟨v, v', rfl, r1, r2⟩ := rps2 r
    rw [r1.ref_of]
    exact ⟨v', cv, bb, rfl, hc H v' r2, hk, q _ H (TS.refl H) (.bl _) l⟩) (he := hs) (hpl := hpl)
theorem ae_anyH {cls : Value} {dd : Option Addr} (hz : L2N.Zn cls dd oe) (hf : ∃ vs, oe.data = .fields vs) (hg : Gl X "any") (hm : X.mg "any" = none) (h : AE (X.suite p ((p, oe) :: pn)) a ρ A fun d A1 => ∃ (bs : List Bool), IsL A1 d (bs.map D.bl) ∧ k (.bl (bs.any id)) A1) (hs : starEach [a] X.env = [(false, eval a X.env)] := by rfl) :
    AE (X.suite p ((p, oe) :: pn)) (.Call (.Name "any" p0) [a] [] pos) ρ A k :=
  ae_callB (cr_anyH hz hf) hg hm (by decide +kernel) (aes_cons (h.mono fun d A1 hd => aes_nil (fun vs H r l Q q => by
    obtain ⟨v, rfl, r1⟩ := rps1 r
    obtain ⟨ns, hl, hk⟩ := hd
    obtain ⟨p, ws, rfl, h1, h2⟩ := hl.sq r1 l
    exact ⟨p, ns, rfl, by rw [← h2.bls]; exact h1, q _ H _ A1 (TS.refl H) (.bl _) l hk⟩)) hs) (he := hs) (hpl := rfl)
end
end C7
namespace C7
open PySem PySem.Spec PyProof.Rows L2
theorem atI_map {α : Type} {f : α → D} {xs : List α} {k : Nat} {x : α} (h : xs[k]? = some x) : atI (xs.map f) (k : Int) = some (f x) := atI_nat (by rw [List.getElem?_map, h]; rfl)
theorem atN {ns : List Int} (k : Nat) (h : k < ns.length) : atI (ns.map D.int) (k : Int) = some (.int (ns.getD k 0)) := by
  refine atI_map ?_
  rw [List.getD_eq_getElem?_getD, List.getElem?_eq_getElem h]
  rfl
theorem atZ {ns : List Int} {i : Int} (h0 : 0 ≤ i) (h : i < ns.length) : atI (ns.map D.int) i = some (.int (ns.getD i.toNat 0)) := by
  obtain ⟨k, rfl⟩ := Int.eq_ofNat_of_zero_le h0
  exact atN k (by omega)
theorem getD_mem {ns : List Int} {k : Nat} {P : Int → Prop} (h : ∀ n ∈ ns, P n) (hk : k < ns.length) : P (ns.getD k 0) := by
  rw [List.getD_eq_getElem?_getD, List.getElem?_eq_getElem hk]
  exact h _ (List.getElem_mem hk)
theorem bt_small {i : Int} (n : Nat) (h0 : -(2 ^ n) < i) (h1 : i < 2 ^ n) : i.natAbs < 2 ^ n := by
  have e : ((2 : Int) ^ n) = ((2 ^ n : Nat) : Int) := by rw [Int.natCast_pow]; rfl
  rw [e] at h0 h1
  omega
theorem cpow {i j : Int} (h0 : 0 ≤ j) (h1 : j ≤ 1000000) (h2 : i.natAbs < 2 ^ 64) : CPow i j := ⟨h0, h1, h2⟩
def cellM (ns : List Int) (k : Int) : Int := ns.getD k.toNat 0
end C7
namespace C7
open PySem PySem.Spec PyProof.Rows L2
theorem bo_ValueError : bootBuiltins "ValueError" = some (.type "ValueError") := by decide +kernel
theorem bo_int : bootBuiltins "int" = some (.type "int") := by decide +kernel
theorem bo_bool : bootBuiltins "bool" = some (.type "bool") := by decide +kernel
theorem bo_tuple : bootBuiltins "tuple" = some (.type "tuple") := by decide +kernel
theorem bo_list : bootBuiltins "list" = some (.type "list") := by decide +kernel
theorem bo_str : bootBuiltins "str" = some (.type "str") := by decide +kernel
theorem kt_int_int : kitB "int" "int" = some true := by decide +kernel
theorem kt_int_bool : kitB "int" "bool" = some false := by decide +kernel
theorem kt_tuple_tuple : kitB "tuple" "tuple" = some true := by decide +kernel
theorem kt_list_list : kitB "list" "list" = some true := by decide +kernel
theorem kt_str_str : kitB "str" "str" = some true := by decide +kernel
theorem kt_list_tuple : kitB "list" "tuple" = some false := by decide +kernel
theorem kt_tuple_list : kitB "tuple" "list" = some false := by decide +kernel
theorem kt_bool_bool : kitB "bool" "bool" = some true := by decide +kernel
theorem kt_int_str : kitB "int" "str" = some false := by decide +kernel
theorem kt_bool_str : kitB "bool" "str" = some false := by decide +kernel
theorem kt_NoneType_str : kitB "NoneType" "str" = some false := by decide +kernel
theorem kt_list_str : kitB "list" "str" = some false := by decide +kernel
theorem kt_tuple_str : kitB "tuple" "str" = some false := by decide +kernel
theorem gcd_step {a b : Int} (ha : 0 ≤ a) (hb : 0 < b) : Nat.gcd b.natAbs (a % b).natAbs = Nat.gcd a.natAbs b.natAbs := by
  rw [Int.natAbs_emod_of_nonneg ha, Nat.gcd_comm a.natAbs, Nat.gcd_rec b.natAbs a.natAbs, Nat.gcd_comm]
theorem gcd_zero {x : Int} (hx : 0 ≤ x) : ((Nat.gcd x.natAbs (0 : Int).natAbs : Nat) : Int) = x := by
  show ((Nat.gcd x.natAbs 0 : Nat) : Int) = x
  rw [Nat.gcd_zero_right]
  omega
theorem neg_div_neg (t b : Int) : (((0 - t : Int)) : Rat) / ((0 - b : Int) : Rat) = (t : Rat) / (b : Rat) := by
  have e1 : ((0 - t : Int) : Rat) = - (t : Rat) := by push_cast; grind
  have e2 : ((0 - b : Int) : Rat) = - (b : Rat) := by push_cast; grind
  rw [e1, e2]
  by_cases h : (b : Rat) = 0
  · rw [h]; grind
  · grind
theorem add_eq (p q : Rat) : ((p.num * (q.den : Int) + q.num * (p.den : Int) : Int) : Rat) / (((p.den : Int) * (q.den : Int) : Int) : Rat) = p + q := by
  have h1 := rat_eq p
  have h2 := rat_eq q
  have h3 := den_ne p
  have h4 := den_ne q
  have e1 : ((p.num * (q.den : Int) + q.num * (p.den : Int) : Int) : Rat) = (p.num : Rat) * (q.den : Rat) + q.num * (p.den : Rat) := by push_cast; rfl
  have e2 : (((p.den : Int) * (q.den : Int) : Int) : Rat) = (p.den : Rat) * (q.den : Rat) := by push_cast; rfl
  rw [e1, e2]
  grind
theorem sub_eq (p q : Rat) : ((p.num * (q.den : Int) - q.num * (p.den : Int) : Int) : Rat) / (((p.den : Int) * (q.den : Int) : Int) : Rat) = p - q := by
  have h1 := rat_eq p
  have h2 := rat_eq q
  have h3 := den_ne p
  have h4 := den_ne q
  have e1 : ((p.num * (q.den : Int) - q.num * (p.den : Int) : Int) : Rat) = (p.num : Rat) * (q.den : Rat) - q.num * (p.den : Rat) := by push_cast; rfl
  have e2 : (((p.den : Int) * (q.den : Int) : Int) : Rat) = (p.den : Rat) * (q.den : Rat) := by push_cast; rfl
  rw [e1, e2]
  grind
theorem mul_eq (p q : Rat) : ((p.num * q.num : Int) : Rat) / (((p.den : Int) * (q.den : Int) : Int) : Rat) = p * q := by
  have h1 := rat_eq p
  have h2 := rat_eq q
  have h3 := den_ne p
  have h4 := den_ne q
  have e1 : ((p.num * q.num : Int) : Rat) = (p.num : Rat) * (q.num : Rat) := by push_cast; rfl
  have e2 : (((p.den : Int) * (q.den : Int) : Int) : Rat) = (p.den : Rat) * (q.den : Rat) := by push_cast; rfl
  rw [e1, e2]
  grind
theorem num_ne {q : Rat} (h : q ≠ 0) : (q.num : Rat) ≠ 0 := fun e => h (by
  have e2 : q.num = 0 := by exact_mod_cast e
  rw [rat_eq q, e2]
  grind)
theorem div_eq (p q : Rat) (hq : q ≠ 0) : ((p.num * (q.den : Int) : Int) : Rat) / (((p.den : Int) * q.num : Int) : Rat) = p / q := by
  have h1 := rat_eq p
  have h2 := rat_eq q
  have h3 := den_ne p
  have h4 := den_ne q
  have h5 := num_ne hq
  have e1 : ((p.num * (q.den : Int) : Int) : Rat) = (p.num : Rat) * (q.den : Rat) := by push_cast; rfl
  have e2 : (((p.den : Int) * q.num : Int) : Rat) = (p.den : Rat) * (q.num : Rat) := by push_cast; rfl
  rw [e1, e2]
  grind
theorem den2 (p q : Rat) : (p.den : Int) * (q.den : Int) ≠ 0 := by have := den_pos p; have := den_pos q; exact Int.ne_of_gt (Int.mul_pos ‹_› ‹_›)
theorem sz_divR {m n : Nat} {p q : Rat} (hp : Sz m p) (hq : Sz n q) (h0 : q ≠ 0) : Sz (m + n) (p / q) := by
  have h0' : q.num ≠ 0 := fun e => num_ne h0 (by rw [e]; rfl)
  refine sz_div (N := p.num * (q.den : Int)) (D := (p.den : Int) * q.num) (Int.mul_ne_zero (by have := den_pos p; omega) h0') (div_eq p q h0).symm ?_ ?_
  · exact bt_mul hp.num hq.den
  · exact bt_mul hp.den hq.num
theorem one_sub (t : Rat) : (1 - t).num = (t.den : Int) - t.num ∧ ((1 - t).den : Int) = (t.den : Int) := by
  refine num_den (den_pos t) ?_ ?_
  · rw [Int.natAbs_natCast]
    have h := t.reduced
    have : Nat.gcd ((t.den : Int) - t.num).natAbs t.den = Nat.gcd t.num.natAbs t.den := by
      have e1 : ((Nat.gcd ((t.den : Int) - t.num).natAbs t.den : Nat) : Int) = ((Int.gcd ((t.den : Int) - t.num) t.den : Nat) : Int) := rfl
      have e2 : Nat.gcd ((t.den : Int) - t.num).natAbs t.den = Int.gcd ((t.den : Int) - t.num) (t.den : Int) := rfl
      rw [e2, Int.gcd_self_sub_left]
      rfl
    rw [this]
    exact h
  · have h1 := rat_eq t
    have h3 := den_ne t
    have e1 : (((t.den : Int) - t.num : Int) : Rat) = (t.den : Rat) - (t.num : Rat) := by push_cast; rfl
    have e2 : ((t.den : Int) : Rat) = (t.den : Rat) := by push_cast; rfl
    rw [e1, e2]
    grind
theorem sh_one_sub (t : Rat) : D.tup [.int ((t.den : Int) - t.num), .int (t.den : Int)] = sh (1 - t) := by
  obtain ⟨a, b⟩ := one_sub t
  unfold sh
  rw [a, b]
theorem sz_one_sub {m : Nat} {t : Rat} (h : Sz m t) : Sz (m + 1) (1 - t) := by
  obtain ⟨a, b⟩ := one_sub t
  have b' : (1 - t).den = t.den := by omega
  refine ⟨?_, ?_⟩
  · rw [a]
    exact bt_le (bt_sub h.den h.num) (by omega)
  · rw [b']
    exact Nat.lt_of_lt_of_le h.d (Nat.pow_le_pow_right (by decide) (by omega))
/-- what lies between, over one bottom -/
theorem between_eq (p q t : Rat) : ((p.num * (q.den : Int) * (t.den : Int) + t.num * (q.num * (p.den : Int) - p.num * (q.den : Int)) : Int) : Rat) / (((p.den : Int) * (q.den : Int) * (t.den : Int) : Int) : Rat) = p + t * (q - p) := by
  have h1 := rat_eq p
  have h2 := rat_eq q
  have h3 := rat_eq t
  have h4 := den_ne p
  have h5 := den_ne q
  have h6 := den_ne t
  have e1 : ((p.num * (q.den : Int) * (t.den : Int) + t.num * (q.num * (p.den : Int) - p.num * (q.den : Int)) : Int) : Rat) = (p.num : Rat) * (q.den : Rat) * (t.den : Rat) + t.num * (q.num * (p.den : Rat) - p.num * (q.den : Rat)) := by push_cast; rfl
  have e2 : (((p.den : Int) * (q.den : Int) * (t.den : Int) : Int) : Rat) = (p.den : Rat) * (q.den : Rat) * (t.den : Rat) := by push_cast; rfl
  rw [e1, e2]
  generalize (p.num : Rat) = pn at *
  generalize (q.num : Rat) = qn at *
  generalize (t.num : Rat) = tn at *
  generalize (p.den : Rat) = pd at *
  generalize (q.den : Rat) = qd at *
  generalize (t.den : Rat) = td at *
  subst h1 h2 h3
  have h7 : pd * qd * td ≠ 0 := by
    intro h
    rcases Rat.mul_eq_zero.mp h with h | h
    · rcases Rat.mul_eq_zero.mp h with h | h
      · exact h4 h
      · exact h5 h
    · exact h6 h
  grind
theorem sz_zero : Sz 1 (0 : Rat) := ⟨by decide, by decide⟩
theorem sz_one : Sz 1 (1 : Rat) := ⟨by decide, by decide⟩
theorem den3 (p q t : Rat) : (p.den : Int) * (q.den : Int) * (t.den : Int) ≠ 0 := Int.mul_ne_zero (den2 p q) (by have := den_pos t; omega)
/-- an own class as a value -/
theorem av_cls {X : Cx} {ρ : Ro} {A : AH} {x : Str} {C : Addr} {pos : Pos} (e : ExcF X.K X.mg x C) (hg : Gl X x) (hd : (x == ("__debug__" : Str)) = false := by decide) : AV X (.Name x pos) ρ A (.ref C) :=
  av_glob hg e.g (v := .ref C) rfl (fun _ => .ref C) hd
theorem cls_of {K : Frag} {C : Addr} : ∀ H v, Rp K H v (.ref C) → ∀ u, RelV v u → u = .ref C := fun H v r u h => by
  rw [r.ref_of] at h; exact h
theorem ty_of {K : Frag} {U : String} : ∀ H v, Rp K H v (.ty U) → ∀ u, RelV v u → u = .type U := fun H v r u h => by
  rw [r.ty_of] at h; exact h
theorem cut_len (xs : List D) (lo hi : Option Int) : (cutD xs lo hi).length ≤ xs.length := by
  unfold cutD
  rw [List.length_take, List.length_drop]
  omega
/-- the block of a for -/
def forBody : Stmt → List Stmt
  | .For _ _ b _ _ => b
  | _ => []
def ifBody : Stmt → List Stmt
  | .If _ b _ _ => b
  | _ => []
theorem cut1D (xs : List D) : cutD xs (some 1) none = xs.drop 1 := by
  unfold cutD
  rw [show HT.sIx xs.length 0 (some 1) = min 1 xs.length from HT.sIx_nat xs.length 0 1, HT.sIx_none]
  cases xs with
  | nil => rfl
  | cons x r =>
    rw [show min 1 (x :: r).length = 1 by rw [List.length_cons]; omega]
    show (List.take ((x :: r).length - 1) r) = r
    rw [List.length_cons, Nat.add_sub_cancel]
    exact List.take_length
end C7
namespace C7
open PySem PySem.Spec PyProof.Rows L2

/-! ### == of data -/
mutual
inductive Py (A : AH) : D → PyData → Prop
  | non : Py A .non .none
  | bl (b : Bool) : Py A (.bl b) (.bool b)
  | int (i : Int) : Py A (.int i) (.int i)
  | str (x : Str) : Py A (.str x) (.str x)
  | tup {ds : List D} {ps : List PyData} : Pys A ds ps → Py A (.tup ds) (.tuple ps)
  | lst {d : D} {ds : List D} {ps : List PyData} : IsL A d ds → Pys A ds ps → Py A d (.list ps)
inductive Pys (A : AH) : List D → List PyData → Prop
  | nil : Pys A [] []
  | cons {d : D} {ds : List D} {p : PyData} {ps : List PyData} : Py A d p → Pys A ds ps → Pys A (d :: ds) (p :: ps)
end
mutual
theorem Py.dp {A : AH} {K : Frag} {H : Hp} (l : Rel K A H) : ∀ {d : D} {p : PyData} {v : V}, Py A d p → Rp K H v d → Dp K H v p
  | _, _, _, .non, r => by rw [r.non_of]; exact .non
  | _, _, _, .bl b, r => by rw [r.bl_of]; exact .bl b
  | _, _, _, .int i, r => by rw [r.int_of]; exact .int i
  | _, _, _, .str x, r => by rw [r.str_of]; exact .str x
  | _, _, _, .tup h, r => by
    obtain ⟨a, vs, rfl, h1, h2⟩ := r.tup_of
    exact .tup h1 (Pys.dp l h h2)
  | _, _, _, .lst hl h, r => by
    obtain ⟨a, vs, rfl, h1, h2⟩ := hl.sq r l
    exact .lst h1 (Pys.dp l h h2)
theorem Pys.dp {A : AH} {K : Frag} {H : Hp} (l : Rel K A H) : ∀ {ds : List D} {ps : List PyData} {vs : List V}, Pys A ds ps → Rps K H vs ds → DpAll K H vs ps
  | _, _, _, .nil, r => by cases r; exact .nil
  | _, _, _, .cons h hs, r => by
    cases r with
    | cons r1 r2 => exact .cons (Py.dp l h r1) (Pys.dp l hs r2)
end
/-- a kind of data that == tells apart -/
structure Enc (α : Type) [DecidableEq α] where
  d : α → D
  p : α → PyData
  py : ∀ A x, Py A (d x) (p x)
  lay : ∀ x, (p x).canLay0 = true
  dep : ∀ x, (p x).depth ≤ 20
  eqv : ∀ x y, PyData.eqv (p x) (p y) = decide (x = y)
def eI : Enc Int where
  d := .int
  p := .int
  py := fun _ i => .int i
  lay := fun _ => rfl
  dep := fun _ => Nat.zero_le _
  eqv := fun x y => by
    show (x == y) = decide (x = y)
    rw [Bool.eq_iff_iff]; simp
def eB : Enc Bool where
  d := .bl
  p := .bool
  py := fun _ i => .bl i
  lay := fun _ => rfl
  dep := fun _ => Nat.zero_le _
  eqv := fun x y => by
    show (x == y) = decide (x = y)
    rw [Bool.eq_iff_iff]; simp
theorem depthAll_le {α : Type} [DecidableEq α] (e : Enc α) : ∀ xs : List α, PyData.depthAll (xs.map e.p) ≤ 20
  | [] => Nat.zero_le _
  | x :: xs => by
    rw [List.map_cons, PyData.depthAll]
    exact Nat.max_le.mpr ⟨e.dep x, depthAll_le e xs⟩
theorem layAll {α : Type} [DecidableEq α] (e : Enc α) : ∀ xs : List α, PyData.canLayAll0 (xs.map e.p) = true
  | [] => rfl
  | x :: xs => by
    rw [List.map_cons, PyData.canLayAll0, e.lay x, layAll e xs]
    rfl
theorem eqvAll {α : Type} [DecidableEq α] (e : Enc α) : ∀ xs ys : List α, PyData.eqvAll (xs.map e.p) (ys.map e.p) = decide (xs = ys)
  | [], [] => rfl
  | [], _ :: _ => rfl
  | _ :: _, [] => rfl
  | x :: xs, y :: ys => by
    rw [List.map_cons, List.map_cons, PyData.eqvAll, e.eqv, eqvAll e xs ys, Bool.eq_iff_iff]
    simp
theorem pysAll {α : Type} [DecidableEq α] (e : Enc α) (A : AH) : ∀ xs : List α, Pys A (xs.map e.d) (xs.map e.p)
  | [] => .nil
  | x :: xs => .cons (e.py A x) (pysAll e A xs)
/-- a tuple of two -/
def eT {α β : Type} [DecidableEq α] [DecidableEq β] (e : Enc α) (f : Enc β) (he : ∀ x, (e.p x).depth ≤ 10) (hf : ∀ x, (f.p x).depth ≤ 10) : Enc (α × β) where
  d := fun x => .tup [e.d x.1, f.d x.2]
  p := fun x => .tuple [e.p x.1, f.p x.2]
  py := fun A x => .tup (.cons (e.py A _) (.cons (f.py A _) .nil))
  lay := fun x => by
    show PyData.canLayAll0 [e.p x.1, f.p x.2] = true
    rw [PyData.canLayAll0, PyData.canLayAll0, PyData.canLayAll0, e.lay, f.lay]
    rfl
  dep := fun x => by
    show PyData.depthAll [e.p x.1, f.p x.2] + 1 ≤ 20
    rw [PyData.depthAll, PyData.depthAll, PyData.depthAll]
    have := he x.1
    have := hf x.2
    omega
  eqv := fun x y => by
    show PyData.eqvAll [e.p x.1, f.p x.2] [e.p y.1, f.p y.2] = _
    rw [PyData.eqvAll, PyData.eqvAll, PyData.eqvAll, e.eqv, f.eqv, Bool.eq_iff_iff]
    simp [Prod.ext_iff]
theorem rat_ext {p q : Rat} (h1 : p.num = q.num) (h2 : p.den = q.den) : p = q := by
  rw [rat_eq p, rat_eq q, h1, h2]
def eR : Enc Rat where
  d := sh
  p := fun q => .tuple [.int q.num, .int (q.den : Int)]
  py := fun A q => .tup (.cons (.int _) (.cons (.int _) .nil))
  lay := fun _ => rfl
  dep := fun _ => by
    show PyData.depthAll [.int _, .int _] + 1 ≤ 20
    simp [PyData.depthAll, PyData.depth]
  eqv := fun x y => by
    show PyData.eqvAll [.int x.num, .int x.den] [.int y.num, .int y.den] = _
    rw [PyData.eqvAll, PyData.eqvAll, PyData.eqvAll]
    show ((x.num == y.num) && (((x.den : Int) == (y.den : Int)) && true)) = _
    rw [Bool.eq_iff_iff]
    simp only [Bool.and_eq_true, beq_iff_eq, decide_eq_true_eq, and_true]
    constructor
    · rintro ⟨a, b⟩; exact rat_ext a (by omega)
    · rintro rfl; exact ⟨rfl, rfl⟩
theorem lt_num (p q : Rat) : decide (p.num * (q.den : Int) < q.num * (p.den : Int)) = decide (p < q) := by
  rw [Bool.eq_iff_iff, decide_eq_true_eq, decide_eq_true_eq]
  exact (Rat.lt_iff p q).symm
/-- a point -/
abbrev Pt := Rat × Rat
def pt (p : Pt) : D := .tup [sh p.1, sh p.2]
theorem dep_eR (q : Rat) : (eR.p q).depth ≤ 10 := by
  show PyData.depthAll [.int _, .int _] + 1 ≤ 10
  simp [PyData.depthAll, PyData.depth]
def eP : Enc Pt := eT eR eR dep_eR dep_eR
theorem eP_d (p : Pt) : eP.d p = pt p := rfl
section
variable {X : Cx} {ρ : Ro} {A : AH} {a b : Expr} {pos : Pos} {d d' : D} {p p' : PyData} {lv : Nat}
theorem shp {p : PyData} (h1 : p.canLay0 = true) (h2 : p.depth ≤ 64) : SeqAt.shaped p = true := by
  unfold SeqAt.shaped
  rw [h1, decide_eq_true h2]
  rfl
/-- ==, != of data -/
theorem av_eqP (hr : Room lv X.A) (ha : AV X a ρ A d) (hb : AV X b ρ A d') (h : Py A d p) (h' : Py A d' p') (s : SeqAt.shaped p = true) (s' : SeqAt.shaped p' = true) : AV X (.Compare a [.Eq] [b] pos) ρ A (.bl (PyData.eqv p p')) :=
  av_cmp (op_eqD hr.units) (nomark _) ha hb fun v u H r1 r2 l Q q => ⟨p, p', h.dp l r1, h'.dp l r2, s, s', q _ H (TS.refl H) (.bl _) l⟩
theorem av_neP (hr : Room lv X.A) (ha : AV X a ρ A d) (hb : AV X b ρ A d') (h : Py A d p) (h' : Py A d' p') (s : SeqAt.shaped p = true) (s' : SeqAt.shaped p' = true) : AV X (.Compare a [.NotEq] [b] pos) ρ A (.bl (!PyData.eqv p p')) :=
  av_cmp (op_neD hr.units) (nomark _) ha hb fun v u H r1 r2 l Q q => ⟨p, p', h.dp l r1, h'.dp l r2, s, s', q _ H (TS.refl H) (.bl _) l⟩
theorem aet_eqP {kt : Bool → AH → Prop} (hr : Room lv X.A) (h : AE X a ρ A fun x A1 => AE X b ρ A1 fun y A2 => ∃ p p', Py A2 x p ∧ Py A2 y p' ∧ SeqAt.shaped p = true ∧ SeqAt.shaped p' = true ∧ kt (PyData.eqv p p') A2) : AET X (.Compare a [.Eq] [b] pos) ρ A kt :=
  aet_cmp (op_eqD hr.units) (nomark _) (h.mono fun x A1 h1 => h1.mono fun y A2 ⟨p, p', h2, h3, s, s', k2⟩ v u H r1 r2 l Q q => ⟨p, p', h2.dp l r1, h3.dp l r2, s, s', q _ H A2 (TS.refl H) l k2⟩)
theorem aet_neP {kt : Bool → AH → Prop} (hr : Room lv X.A) (h : AE X a ρ A fun x A1 => AE X b ρ A1 fun y A2 => ∃ p p', Py A2 x p ∧ Py A2 y p' ∧ SeqAt.shaped p = true ∧ SeqAt.shaped p' = true ∧ kt (!PyData.eqv p p') A2) : AET X (.Compare a [.NotEq] [b] pos) ρ A kt :=
  aet_cmp (op_neD hr.units) (nomark _) (h.mono fun x A1 h1 => h1.mono fun y A2 ⟨p, p', h2, h3, s, s', k2⟩ v u H r1 r2 l Q q => ⟨p, p', h2.dp l r1, h3.dp l r2, s, s', q _ H A2 (TS.refl H) l k2⟩)
theorem ae_cmpE {op : CmpOp} {r : R2} {k : AK} (ho : OpR X (compareOp op) r) (hm : behindInMarks op b = false)
    (h : AE X a ρ A fun x A1 => AE X b ρ A1 fun y A2 => ∀ v u H, Rp X.K H v x → Rp X.K H u y → Rel X.K A2 H → ∀ Q : VK, (∀ z H' d A', TS H H' → Rp X.K H' z d → Rel X.K A' H' → k d A' → Q z H') → r v u H Q) : AE X (.Compare a [op] [b] pos) ρ A k :=
  fun σ H s Q q => tm_of (pe_cmpR ho (pe_tm a) (pe_tm b) hm) (h σ H s _ fun v H1 x A1 t1 r1 l1 h1 => h1 σ H1 (s.mono t1 l1) _ fun u H2 y A2 t2 r2 l2 h2 =>
    h2 v u H2 (r1.mono t2) r2 l2 Q fun z H' d A' t3 r3 l3 q3 => q z H' d A' ((t1.trans t2).trans t3) r3 l3 q3)
theorem ae_eqP {k : AK} (hr : Room lv X.A) (h : AE X a ρ A fun x A1 => AE X b ρ A1 fun y A2 => ∃ p p', Py A2 x p ∧ Py A2 y p' ∧ SeqAt.shaped p = true ∧ SeqAt.shaped p' = true ∧ k (.bl (PyData.eqv p p')) A2) : AE X (.Compare a [.Eq] [b] pos) ρ A k :=
  ae_cmpE (op_eqD hr.units) (nomark _) (h.mono fun x A1 h1 => h1.mono fun y A2 ⟨p, p', h2, h3, s, s', k2⟩ v u H r1 r2 l Q q => ⟨p, p', h2.dp l r1, h3.dp l r2, s, s', q _ H _ A2 (TS.refl H) (.bl _) l k2⟩)
section
variable {α : Type} [DecidableEq α] (e : Enc α) {x y : α}
theorem av_eqE (hr : Room lv X.A) (ha : AV X a ρ A (e.d x)) (hb : AV X b ρ A (e.d y)) : AV X (.Compare a [.Eq] [b] pos) ρ A (.bl (decide (x = y))) := by
  rw [← e.eqv]
  exact av_eqP hr ha hb (e.py A x) (e.py A y) (shp (e.lay x) (Nat.le_trans (e.dep x) (by decide))) (shp (e.lay y) (Nat.le_trans (e.dep y) (by decide)))
theorem av_neE (hr : Room lv X.A) (ha : AV X a ρ A (e.d x)) (hb : AV X b ρ A (e.d y)) : AV X (.Compare a [.NotEq] [b] pos) ρ A (.bl (!decide (x = y))) := by
  rw [← e.eqv]
  exact av_neP hr ha hb (e.py A x) (e.py A y) (shp (e.lay x) (Nat.le_trans (e.dep x) (by decide))) (shp (e.lay y) (Nat.le_trans (e.dep y) (by decide)))
theorem at_eqE (hr : Room lv X.A) (ha : AV X a ρ A (e.d x)) (hb : AV X b ρ A (e.d y)) : AT X (.Compare a [.Eq] [b] pos) ρ A (decide (x = y)) := by
  rw [← e.eqv]
  exact AET.at' (aet_eqP hr (ha.ae (hb.ae ⟨_, _, e.py A x, e.py A y, shp (e.lay x) (Nat.le_trans (e.dep x) (by decide)), shp (e.lay y) (Nat.le_trans (e.dep y) (by decide)), rfl, Ext.refl _⟩)))
theorem at_neE (hr : Room lv X.A) (ha : AV X a ρ A (e.d x)) (hb : AV X b ρ A (e.d y)) : AT X (.Compare a [.NotEq] [b] pos) ρ A (!decide (x = y)) := by
  rw [← e.eqv]
  exact AET.at' (aet_neP hr (ha.ae (hb.ae ⟨_, _, e.py A x, e.py A y, shp (e.lay x) (Nat.le_trans (e.dep x) (by decide)), shp (e.lay y) (Nat.le_trans (e.dep y) (by decide)), rfl, Ext.refl _⟩)))
theorem shpL (xs : List α) : SeqAt.shaped (.list (xs.map e.p)) = true := shp (layAll e xs) (by
  show PyData.depthAll (xs.map e.p) + 1 ≤ 64
  have := depthAll_le e xs
  omega)
theorem eqvL (xs ys : List α) : PyData.eqv (.list (xs.map e.p)) (.list (ys.map e.p)) = decide (xs = ys) := eqvAll e xs ys
theorem pyL {d : D} {xs : List α} (h : IsL A d (xs.map e.d)) : Py A d (.list (xs.map e.p)) := .lst h (pysAll e A xs)
variable {xs ys : List α}
theorem av_eqL (hr : Room lv X.A) (ha : AV X a ρ A d) (hb : AV X b ρ A d') (h : IsL A d (xs.map e.d)) (h' : IsL A d' (ys.map e.d)) : AV X (.Compare a [.Eq] [b] pos) ρ A (.bl (decide (xs = ys))) := by
  rw [← eqvL e]
  exact av_eqP hr ha hb (pyL e h) (pyL e h') (shpL e xs) (shpL e ys)
theorem at_eqL (hr : Room lv X.A) (ha : AV X a ρ A d) (hb : AV X b ρ A d') (h : IsL A d (xs.map e.d)) (h' : IsL A d' (ys.map e.d)) : AT X (.Compare a [.Eq] [b] pos) ρ A (decide (xs = ys)) := by
  rw [← eqvL e]
  exact AET.at' (aet_eqP hr (ha.ae (hb.ae ⟨_, _, pyL e h, pyL e h', shpL e xs, shpL e ys, rfl, Ext.refl _⟩)))
theorem at_neL (hr : Room lv X.A) (ha : AV X a ρ A d) (hb : AV X b ρ A d') (h : IsL A d (xs.map e.d)) (h' : IsL A d' (ys.map e.d)) : AT X (.Compare a [.NotEq] [b] pos) ρ A (!decide (xs = ys)) := by
  rw [← eqvL e]
  exact AET.at' (aet_neP hr (ha.ae (hb.ae ⟨_, _, pyL e h, pyL e h', shpL e xs, shpL e ys, rfl, Ext.refl _⟩)))
end
end
end C7
namespace C7
open PySem PySem.Spec PyProof.Rows L2
/-! ### the law's own fractions -/
abbrev Fq := Int × Int
def fr (f : Fq) : D := .tup [.int f.1, .int f.2]
def val (f : Fq) : Rat := (f.1 : Rat) / (f.2 : Rat)
structure Fz (m : Nat) (f : Fq) : Prop where
  b1 : f.1.natAbs < 2 ^ m
  b2 : f.2.natAbs < 2 ^ m
  nz : f.2 ≠ 0
def fS (q : Rat) : Fq := (q.num, (q.den : Int))
theorem fr_S (q : Rat) : fr (fS q) = sh q := rfl
theorem val_S (q : Rat) : val (fS q) = q := by
  have := rat_eq q
  unfold val fS
  have e : (((q.den : Int)) : Rat) = (q.den : Rat) := by push_cast; rfl
  rw [e]
  exact this.symm
theorem fz_S {m : Nat} {q : Rat} (h : Sz m q) : Fz m (fS q) := ⟨h.num, h.den, by have := den_pos q; unfold fS; show (q.den : Int) ≠ 0; omega⟩
theorem Fz.up {m n : Nat} {f : Fq} (h : Fz m f) (e : m ≤ n) : Fz n f := ⟨bt_le h.b1 e, bt_le h.b2 e, h.nz⟩
def fMul (f g : Fq) : Fq := (f.1 * g.1, f.2 * g.2)
def fAdd (f g : Fq) (s : Int) : Fq := (f.1 * g.2 + s * g.1 * f.2, f.2 * g.2)
theorem fz_mul {m n : Nat} {f g : Fq} (h : Fz m f) (h' : Fz n g) : Fz (m + n) (fMul f g) := ⟨bt_mul h.b1 h'.b1, bt_mul h.b2 h'.b2, Int.mul_ne_zero h.nz h'.nz⟩
theorem fz_add {m n : Nat} {f g : Fq} {s : Int} (h : Fz m f) (h' : Fz n g) (hs : s.natAbs < 2 ^ 1) : Fz (m + n + 2) (fAdd f g s) := by
  refine ⟨?_, bt_le (bt_mul h.b2 h'.b2) (by omega), Int.mul_ne_zero h.nz h'.nz⟩
  exact bt_le (bt_add (bt_mul h.b1 h'.b2) (bt_mul (bt_mul hs h'.b1) h.b2)) (by omega)
theorem val_ne {f : Fq} {m : Nat} (h : Fz m f) : (f.2 : Rat) ≠ 0 := fun e => h.nz (by exact_mod_cast e)
theorem val_mul (f g : Fq) : val (fMul f g) = val f * val g := by
  unfold val fMul
  have e1 : ((f.1 * g.1 : Int) : Rat) = (f.1 : Rat) * g.1 := by push_cast; rfl
  have e2 : ((f.2 * g.2 : Int) : Rat) = (f.2 : Rat) * g.2 := by push_cast; rfl
  show ((f.1 * g.1 : Int) : Rat) / ((f.2 * g.2 : Int) : Rat) = _
  rw [e1, e2]
  grind
theorem val_add {m n : Nat} {f g : Fq} (s : Int) (h : Fz m f) (h' : Fz n g) : val (fAdd f g s) = val f + s * val g := by
  have h1 := val_ne h
  have h2 := val_ne h'
  unfold val fAdd
  have e1 : ((f.1 * g.2 + s * g.1 * f.2 : Int) : Rat) = (f.1 : Rat) * g.2 + s * g.1 * f.2 := by push_cast; rfl
  have e2 : ((f.2 * g.2 : Int) : Rat) = (f.2 : Rat) * g.2 := by push_cast; rfl
  show ((f.1 * g.2 + s * g.1 * f.2 : Int) : Rat) / ((f.2 * g.2 : Int) : Rat) = _
  rw [e1, e2]
  generalize (f.1 : Rat) = a at *
  generalize (f.2 : Rat) = b at *
  generalize (g.1 : Rat) = c at *
  generalize (g.2 : Rat) = d at *
  have h3 : b * d ≠ 0 := fun h => (Rat.mul_eq_zero.mp h).elim h1 h2
  grind
theorem tup_pt (a b : Rat) : D.tup [sh a, sh b] = pt (a, b) := rfl
theorem tup_0 : D.tup [.int 0, .int 1] = sh 0 := rfl
theorem tup_1 : D.tup [.int 1, .int 1] = sh 1 := rfl
def SzP (m : Nat) (p : Pt) : Prop := Sz m p.1 ∧ Sz m p.2
theorem SzP.l {m : Nat} {p : Pt} (h : SzP m p) : Sz m p.1 := h.1
theorem SzP.r {m : Nat} {p : Pt} (h : SzP m p) : Sz m p.2 := h.2
theorem SzP.up {m n : Nat} {p : Pt} (h : SzP m p) (e : m ≤ n) : SzP n p := ⟨h.1.up e, h.2.up e⟩
def onWay (p q : Pt) (t : Rat) : Pt := (p.1 + t * (q.1 - p.1), p.2 + t * (q.2 - p.2))
def sel (p : Pt) (i : Nat) : Rat := if i = 0 then p.1 else p.2
theorem at2 {p : Pt} {i : Nat} (h : i < 2) : atI [sh p.1, sh p.2] (0 + (i : Int)) = some (sh (sel p i)) := by
  match i, h with
  | 0, _ => rfl
  | 1, _ => rfl
theorem sel_sz {m : Nat} {p : Pt} {i : Nat} (h : SzP m p) : Sz m (sel p i) := by
  unfold sel
  split
  · exact h.1
  · exact h.2
theorem len5 {α : Type} {as : List α} (h : as.length = 5) : ∃ a b c d e, as = [a, b, c, d, e] := by
  match as, h with
  | [a, b, c, d, e], _ => exact ⟨a, b, c, d, e, rfl⟩
end C7
namespace C7
open PySem PySem.Spec PyProof.Rows L2
/-! ### shares over one bottom -/
def Ov (B : Int) (m : Nat) (q : Rat) : Prop := ∃ N : Int, q = (N : Rat) / (B : Rat) ∧ N.natAbs < 2 ^ m
def OvP (B : Int) (m : Nat) (p : Pt) : Prop := Ov B m p.1 ∧ Ov B m p.2
theorem ov_sz {B : Int} {m : Nat} {q : Rat} (hB : B ≠ 0) (hb : B.natAbs < 2 ^ m) (h : Ov B m q) : Sz m q := by
  obtain ⟨N, e, hN⟩ := h
  exact sz_div hB e hN hb
theorem ovp_sz {B : Int} {m : Nat} {p : Pt} (hB : B ≠ 0) (hb : B.natAbs < 2 ^ m) (h : OvP B m p) : SzP m p := ⟨ov_sz hB hb h.1, ov_sz hB hb h.2⟩
theorem Ov.up {B : Int} {m n : Nat} {q : Rat} (h : Ov B m q) (e : m ≤ n) : Ov B n q := by
  obtain ⟨N, e', hN⟩ := h
  exact ⟨N, e', bt_le hN e⟩
theorem OvP.up {B : Int} {m n : Nat} {q : Pt} (h : OvP B m q) (e : m ≤ n) : OvP B n q := ⟨h.1.up e, h.2.up e⟩
theorem ov_between {B : Int} {m n : Nat} {p q t : Rat} (hB : B ≠ 0) (h1 : Ov B m p) (h2 : Ov B m q) (ht : Sz n t) : Ov (B * (t.den : Int)) (m + n + 2) (p + t * (q - p)) := by
  obtain ⟨N1, e1, b1⟩ := h1
  obtain ⟨N2, e2, b2⟩ := h2
  refine ⟨N1 * (t.den : Int) + t.num * (N2 - N1), ?_, ?_⟩
  · have h3 := rat_eq t
    have h6 := den_ne t
    have hB' : (B : Rat) ≠ 0 := fun e => hB (by exact_mod_cast e)
    have c1 : ((N1 * (t.den : Int) + t.num * (N2 - N1) : Int) : Rat) = (N1 : Rat) * (t.den : Rat) + t.num * ((N2 : Rat) - N1) := by push_cast; rfl
    have c2 : ((B * (t.den : Int) : Int) : Rat) = (B : Rat) * (t.den : Rat) := by push_cast; rfl
    rw [c1, c2, e1, e2]
    generalize (N1 : Rat) = a at *
    generalize (N2 : Rat) = b at *
    generalize (B : Rat) = c at *
    generalize (t.num : Rat) = tn at *
    generalize (t.den : Rat) = td at *
    subst h3
    have h7 : c * td ≠ 0 := fun h => (Rat.mul_eq_zero.mp h).elim hB' h6
    grind
  · exact bt_le (bt_add (bt_mul b1 ht.den) (bt_mul ht.num (bt_sub b2 b1))) (by omega)
theorem ovp_on {B : Int} {m n : Nat} {p q : Pt} {t : Rat} (hB : B ≠ 0) (h1 : OvP B m p) (h2 : OvP B m q) (ht : Sz n t) : OvP (B * (t.den : Int)) (m + n + 2) (onWay p q t) := ⟨ov_between hB h1.1 h2.1 ht, ov_between hB h1.2 h2.2 ht⟩

/-! ### lists by place -/
theorem atG {α : Type} {f : α → D} (d0 : α) {xs : List α} {i : Int} (h0 : 0 ≤ i) (h : i < xs.length) : atI (xs.map f) i = some (f (xs.getD i.toNat d0)) := by
  obtain ⟨k, rfl⟩ := Int.eq_ofNat_of_zero_le h0
  refine atI_map ?_
  rw [List.getD_eq_getElem?_getD, List.getElem?_eq_getElem (show k < xs.length by omega)]
  simp
  rw [List.getElem?_eq_getElem (show k < xs.length by omega)]
  rfl
theorem atM1 {α : Type} {f : α → D} (d0 : α) {xs : List α} {n : Nat} (h : xs.length = n + 1) : atI (xs.map f) (-1) = some (f (xs.getD n d0)) := by
  unfold atI
  have e : ixN (xs.map f).length (-1) = some n := by
    rw [List.length_map, h]
    unfold ixN
    simp
    omega
  rw [e]
  show (xs.map f)[n]? = _
  rw [List.getElem?_map, List.getD_eq_getElem?_getD, List.getElem?_eq_getElem (show n < xs.length by omega)]
  rfl
/-- a point of a row -/
def gp (row : List Pt) (k : Nat) : Pt := row.getD k (0, 0)
theorem gp_mem {row : List Pt} {k : Nat} (h : k < row.length) : gp row k ∈ row := by
  unfold gp
  rw [List.getD_eq_getElem?_getD, List.getElem?_eq_getElem h]
  exact List.getElem_mem h
theorem gp_map {n : Nat} {g : Nat → Pt} {k : Nat} (h : k < n) : gp ((List.range n).map g) k = g k := by
  unfold gp
  rw [List.getD_eq_getElem?_getD, List.getElem?_map, List.getElem?_range h]
  rfl
def nextR (t : Rat) (row : List Pt) : List Pt := (List.range (row.length - 1)).map fun k => onWay (gp row k) (gp row (k + 1)) t
theorem nextR_len (t : Rat) (row : List Pt) : (nextR t row).length = row.length - 1 := by unfold nextR; simp
theorem nextR_gp {t : Rat} {row : List Pt} {k : Nat} (h : k < row.length - 1) : gp (nextR t row) k = onWay (gp row k) (gp row (k + 1)) t := gp_map h
def iterR (t : Rat) (row : List Pt) : Nat → List Pt
  | 0 => row
  | j + 1 => nextR t (iterR t row j)
theorem iterR_len (t : Rat) (row : List Pt) (j : Nat) : (iterR t row j).length = row.length - j := by
  induction j with
  | zero => rfl
  | succ j ih => show (nextR t (iterR t row j)).length = _; rw [nextR_len, ih]; omega
theorem iterR_ov {t : Rat} {row : List Pt} {B : Int} {m n : Nat} (hB : B ≠ 0) (ht : Sz n t) (h : ∀ p ∈ row, OvP B m p) : ∀ j, ∀ p ∈ iterR t row j, OvP (B * (t.den : Int) ^ j) (m + j * (n + 2)) p := by
  intro j
  induction j with
  | zero => intro p hp; rw [Int.pow_zero, Int.mul_one, Nat.zero_mul]; exact h p hp
  | succ j ih =>
    intro p hp
    have hp : p ∈ nextR t (iterR t row j) := hp
    unfold nextR at hp
    rw [List.mem_map] at hp
    obtain ⟨k, hk, rfl⟩ := hp
    rw [List.mem_range] at hk
    have hne : B * (t.den : Int) ^ j ≠ 0 := Int.mul_ne_zero hB (Int.pow_ne_zero (by have := den_pos t; omega))
    have := ovp_on hne (ih _ (gp_mem (k := k) (by omega))) (ih _ (gp_mem (k := k + 1) (by omega))) ht
    rw [Int.pow_succ, ← Int.mul_assoc]
    refine this.up ?_
    rw [Nat.succ_mul]
    omega
theorem bt_pow {i : Int} {a : Nat} (h : i.natAbs < 2 ^ a) (j : Nat) : (i ^ j).natAbs < 2 ^ (j * a + 1) := by
  induction j with
  | zero => rw [Int.pow_zero, Nat.zero_mul]; decide
  | succ j ih =>
    rw [Int.pow_succ]
    refine bt_le (bt_mul ih h) ?_
    rw [Nat.succ_mul]
    omega
theorem iterR_sz {t : Rat} {row : List Pt} {B : Int} {m n b : Nat} (hB : B ≠ 0) (hb : B.natAbs < 2 ^ b) (hbm : b < m) (ht : Sz n t) (h : ∀ p ∈ row, OvP B m p) (j : Nat) : ∀ p ∈ iterR t row j, SzP (m + j * (n + 2)) p := fun p hp => by
  refine ovp_sz (Int.mul_ne_zero hB (Int.pow_ne_zero (by have := den_pos t; omega))) ?_ (iterR_ov hB ht h j p hp)
  refine bt_le (bt_mul hb (bt_pow ht.den j)) ?_
  rw [Nat.mul_add]
  omega
/-- the point of a curve -/
def pointR (t : Rat) (row : List Pt) : Pt := gp (iterR t row (row.length - 1)) 0
def rowsR (t : Rat) (row : List Pt) : List (List Pt) := (List.range row.length).map (iterR t row)

/-! ### a list of lists on the heap -/
structure Rws (A : AH) (ps : List Addr) (r : Addr) (A' : AH) (rs : List (List Pt)) : Prop where
  ext : Ext A A'
  len : ps.length = rs.length
  nd : (r :: ps).Nodup
  new : ∀ p ∈ r :: ps, A p = none
  row : ∀ (i : Nat) (p : Addr) (w : List Pt), ps[i]? = some p → rs[i]? = some w → A' p = some (.lst (w.map pt))
  top : A' r = some (.lst (ps.map .ref))
theorem Rws.push {A A' : AH} {ps : List Addr} {r p : Addr} {rs : List (List Pt)} {w : List Pt} (h : Rws A ps r A' rs) (hp : A' p = none) :
    Rws A (ps ++ [p]) r (aupd (aupd A' p (.lst (w.map pt))) r (.lst (ps.map D.ref ++ [.ref p]))) (rs ++ [w]) := by
  have hpr : r ≠ p := fun e => by rw [← e, h.top] at hp; exact nomatch hp
  have hmem : ∀ q ∈ ps, q ≠ p := fun q hq e => by
    obtain ⟨i, hi, hq⟩ := List.getElem_of_mem hq
    have := h.row i q (rs.getD i []) (by rw [List.getElem?_eq_getElem hi, hq]) (by
      have : i < rs.length := by rw [← h.len]; exact hi
      rw [List.getD_eq_getElem?_getD, List.getElem?_eq_getElem this]; rfl)
    rw [e, hp] at this
    exact nomatch this
  have hnd := h.nd
  rw [List.nodup_cons] at hnd
  refine ⟨?_, by simp [h.len], ?_, ?_, ?_, ?_⟩
  · intro q o hq
    have h1 : q ≠ r := fun e => by rw [e, h.new r (by simp)] at hq; exact nomatch hq
    have h2 : q ≠ p := fun e => by have := h.ext q o hq; rw [e, hp] at this; exact nomatch this
    rw [aupd_ne h1, aupd_ne h2]
    exact h.ext q o hq
  · rw [List.nodup_cons]
    refine ⟨?_, ?_⟩
    · rw [List.mem_append]
      rintro (h1 | h1)
      · exact hnd.1 h1
      · rw [List.mem_singleton] at h1; exact hpr h1
    · rw [List.nodup_append]
      refine ⟨hnd.2, by simp, ?_⟩
      intro a ha b hb
      rw [List.mem_singleton] at hb
      rw [hb]
      exact hmem a ha
  · intro q hq
    simp only [List.mem_cons, List.mem_append, List.not_mem_nil, or_false] at hq
    rcases hq with h1 | h1 | h1
    · exact h.new q (by simp [h1])
    · exact h.new q (by simp [h1])
    · rw [h1]
      cases e : A p with
      | none => rfl
      | some o => have := h.ext p o e; rw [hp] at this; exact nomatch this
  · intro i q w' hi hw
    by_cases hlt : i < ps.length
    · rw [List.getElem?_append_left hlt] at hi
      rw [List.getElem?_append_left (by rw [← h.len]; exact hlt)] at hw
      have hm : q ∈ ps := List.mem_of_getElem? hi
      have h1 : q ≠ r := fun e => hnd.1 (e ▸ hm)
      rw [aupd_ne h1, aupd_ne (hmem q hm)]
      exact h.row i q w' hi hw
    · rw [List.getElem?_append_right (by omega)] at hi
      rw [List.getElem?_append_right (by rw [← h.len]; omega), ← h.len] at hw
      have h0 : i - ps.length = 0 := by
        by_cases h0 : i - ps.length = 0
        · exact h0
        · rw [List.getElem?_eq_none (by show [p].length ≤ _; simp; omega)] at hi
          exact nomatch hi
      rw [h0] at hi hw
      have e1 : p = q := Option.some.inj hi
      have e2 : w = w' := Option.some.inj hw
      subst e1 e2
      rw [aupd_ne (fun e => hpr e.symm), aupd_same]
  · rw [aupd_same, List.map_append]
    rfl
theorem Rws.one {A : AH} {p r : Addr} {w : List Pt} (hp : A p = none) (hr : aupd A p (.lst (w.map pt)) r = none) : Rws A [p] r (aupd (aupd A p (.lst (w.map pt))) r (.lst [.ref p])) [w] := by
  have hpr : r ≠ p := fun e => by rw [e, aupd_same] at hr; exact nomatch hr
  rw [aupd_ne hpr] at hr
  refine ⟨?_, rfl, by simp [hpr], ?_, ?_, aupd_same⟩
  · intro q o hq
    have h1 : q ≠ r := fun e => by rw [e, hr] at hq; exact nomatch hq
    have h2 : q ≠ p := fun e => by rw [e, hp] at hq; exact nomatch hq
    rw [aupd_ne h1, aupd_ne h2]
    exact hq
  · intro q hq
    simp only [List.mem_cons, List.not_mem_nil, or_false] at hq
    rcases hq with h1 | h1 <;> rw [h1] <;> assumption
  · intro i q w' hi hw
    match i, hi, hw with
    | 0, hi, hw =>
      have e1 : p = q := Option.some.inj hi
      have e2 : w = w' := Option.some.inj hw
      subst e1 e2
      rw [aupd_ne (fun e => hpr e.symm), aupd_same]
theorem len2 {α : Type} {as : List α} (h : as.length = 2) : ∃ a b, as = [a, b] := by
  match as, h with
  | [a, b], _ => exact ⟨a, b, rfl⟩
theorem ixN_z {n : Nat} {i : Int} (h0 : 0 ≤ i) (h : i < n) : ixN n i = some i.toNat := by
  unfold ixN
  rw [if_pos h0, if_pos h]
theorem atP {row : List Pt} {i : Nat} {j : Int} (e : j = (i : Int)) (h : i < row.length) : atI (row.map pt) j = some (pt (gp row i)) := by
  subst e
  exact atG (f := pt) (0, 0) (by omega) (by omega)
theorem atQ {qs : List Rat} {i : Nat} {j : Int} (e : j = (i : Int)) (h : i < qs.length) : atI (qs.map sh) j = some (sh (qs.getD i 0)) := by
  subst e
  exact atG (f := sh) 0 (by omega) (by omega)
theorem getD_in {α : Type} {xs : List α} {k : Nat} {d0 : α} {P : α → Prop} (h : ∀ x ∈ xs, P x) (hk : k < xs.length) : P (xs.getD k d0) := by
  rw [List.getD_eq_getElem?_getD, List.getElem?_eq_getElem hk]
  exact h _ (List.getElem_mem hk)
theorem shI (x : Int) : D.tup [.int x, .int 1] = sh (x : Rat) := rfl
theorem sz_int {x : Int} {m : Nat} (h : x.natAbs < 2 ^ m) (h0 : 0 < m) : Sz m (x : Rat) := ⟨h, Nat.one_lt_two_pow (by omega)⟩
/-- constants of the top: a tuple of two whole numbers, of two such tuples -/
theorem kTup2 {K : Frag} {c : Addr} {o : Obj} {i j : Int} {t1 t2 : Tok} {n : Nat} (l : List.lookup c K = some o) (hc : o.cls = .type "tuple") (hd : o.data = .seq #[.int i t1, .int j t2] n) (H : Hp) : Rp K H (.ref c) (.tup [.int i, .int j]) :=
  .tup (vs := [.int i, .int j]) (.inr ⟨o, _, n, l, hc, hd, Nat.le_of_ble_eq_true rfl, .cons ⟨t1, rfl⟩ (.cons ⟨t2, rfl⟩ .nil)⟩) (.cons (.int i) (.cons (.int j) .nil))
theorem kTupP {K : Frag} {c a b : Addr} {o : Obj} {d e : D} {n : Nat} (l : List.lookup c K = some o) (hc : o.cls = .type "tuple") (hd : o.data = .seq #[.ref a, .ref b] n) (h1 : ∀ H, Rp K H (.ref a) d) (h2 : ∀ H, Rp K H (.ref b) e) (H : Hp) : Rp K H (.ref c) (.tup [d, e]) :=
  .tup (vs := [.ref a, .ref b]) (.inr ⟨o, _, n, l, hc, hd, Nat.le_of_ble_eq_true rfl, .cons rfl (.cons rfl .nil)⟩) (.cons (h1 H) (.cons (h2 H) .nil))
/-- how long a list in a slot is -/
def lenAt (A : AH) : Option D → Nat
  | some (.ref r) => match A r with
    | some (.lst ds) => ds.length
    | _ => 0
  | _ => 0
theorem lenAt_eq {A : AH} {r : Addr} {ds : List D} (h : A r = some (.lst ds)) : lenAt A (some (.ref r)) = ds.length := by
  show (match A r with | some (.lst ds) => ds.length | _ => 0) = _
  rw [h]
section
variable {X : Cx} {ρ : Ro} {A : AH} {a b : Expr} {pos : Pos} {d : D} {lv : Nat} {α : Type} [DecidableEq α] (e : Enc α) {xs ys : List α}
/-- a list and a list just written -/
theorem av_eqLN (hr : Room lv X.A) (ha : AV X a ρ A d) (hb : AL X b ρ A (ys.map e.d)) (h : IsL A d (xs.map e.d)) : AV X (.Compare a [.Eq] [b] pos) ρ A (.bl (decide (xs = ys))) := by
  rw [← eqvL e]
  exact AE.av (ae_eqP hr (ha.ae (hb.ae fun p hp => ⟨_, _, pyL e (h.ext (Ext.new hp)), pyL e (IsL.of aupd_same), shpL e xs, shpL e ys, rfl, Ext.new hp⟩)))
end
end C7
namespace C7
open PySem PySem.Spec PyProof.Rows L2
theorem Ext.res {A A' : AH} {z : Addr} {o : AO} (h : Ext A A') (hz : A' z = some o) : Ext (aupd A z o) A' := fun q u e => by
  by_cases hq : q = z
  · subst hq
    rw [aupd_same] at e
    rw [hz]
    exact e
  · rw [aupd_ne hq] at e
    exact h q u e
theorem AL.is {X : Cx} {e : Expr} {ρ : Ro} {A : AH} {ds ds' : List D} (h : AL X e ρ A ds) (q : ds = ds') : AL X e ρ A ds' := q ▸ h
theorem cutkD (xs : List D) (k : Nat) : cutD xs (some (k : Int)) none = xs.drop k := by
  unfold cutD
  rw [show HT.sIx xs.length 0 (some (k : Int)) = min k xs.length from HT.sIx_nat xs.length 0 k, HT.sIx_none]
  by_cases h : k ≤ xs.length
  · rw [Nat.min_eq_left h]
    exact List.take_of_length_le (by rw [List.length_drop]; omega)
  · rw [Nat.min_eq_right (by omega), List.drop_eq_nil_of_le (Nat.le_refl _), List.drop_eq_nil_of_le (by omega), List.take_nil]
theorem cutTD (xs : List D) (k : Nat) : cutD xs none (some (k : Int)) = xs.take k := by
  unfold cutD
  rw [show HT.sIx xs.length xs.length (some (k : Int)) = min k xs.length from HT.sIx_nat xs.length xs.length k, HT.sIx_none, List.drop_zero, Nat.sub_zero]
  by_cases h : k ≤ xs.length
  · rw [Nat.min_eq_left h]
  · rw [Nat.min_eq_right (by omega), List.take_of_length_le (Nat.le_refl _), List.take_of_length_le (by omega)]
theorem half_nd : (1 / 2 : Rat).num = 1 ∧ ((1 / 2 : Rat).den : Int) = 2 := num_den (by decide) (by decide) (by push_cast; rfl)
theorem tup_h : D.tup [.int 1, .int 2] = sh (1 / 2) := by
  unfold sh
  rw [half_nd.1, half_nd.2]
theorem sz_h : Sz 110 (1 / 2 : Rat) := by
  have h1 := half_nd.2
  have h : (2 : Nat) < 2 ^ 110 := by decide
  refine ⟨?_, ?_⟩
  · rw [half_nd.1]; decide
  · omega
/-! ### a op b op c -/
section
variable {X : Cx} {ρ : Ro} {A : AH} {a b c : Expr} {pos : Pos} {i j l : Int}
theorem at_ch {op op' : CmpOp} {r r' : R2} {g g' : Int → Int → Bool} (ho : OpR X (compareOp op) r) (ho' : OpR X (compareOp op') r') (e : r = rI0 fun i j => .bl (g i j)) (e' : r' = rI0 fun i j => .bl (g' i j)) (ha : AV X a ρ A (.int i)) (hb : AV X b ρ A (.int j)) (hc : AV X c ρ A (.int l))
    (hm : lastMarks [op, op'] [b, c] = false := by with_unfolding_all rfl) : AT X (.Compare a [op, op'] [b, c] pos) ρ A (g i j && g' j l) := fun σ H s Q q =>
  tmt_of (pt_chain ho ho' (pe_tm a) (pe_tm b) (pe_tm c) hm) (ha σ H s _ fun v H1 t1 r1 l1 => hb σ H1 (s.mono t1 l1) _ fun u H2 t2 r2 l2 => cmpI e v u H2 (r1.mono t2) r2 l2 _ fun H3 t3 l3 => ⟨g i j, rfl, by
    cases hg : g i j with
    | false => rw [if_neg (by decide)]; rw [hg] at q; exact ⟨false, rfl, q H3 ((t1.trans t2).trans t3) l3⟩
    | true =>
      rw [if_pos rfl]
      rw [hg] at q
      exact hc σ H3 (s.mono ((t1.trans t2).trans t3) l3) _ fun z H4 t4 r4 l4 => cmpI e' u z H4 ((r2.mono t3).mono t4) r4 l4 _ fun H5 t5 l5 => ⟨g' j l, rfl, q H5 ((((t1.trans t2).trans t3).trans t4).trans t5) l5⟩⟩)
theorem at_lele (ha : AV X a ρ A (.int i)) (hb : AV X b ρ A (.int j)) (hc : AV X c ρ A (.int l)) (hm : lastMarks [.LtE, .LtE] [b, c] = false := by with_unfolding_all rfl) : AT X (.Compare a [.LtE, .LtE] [b, c] pos) ρ A (decide (i ≤ j) && decide (j ≤ l)) :=
  at_ch (g := fun i j => decide (i ≤ j)) (g' := fun i j => decide (i ≤ j)) op_le op_le rfl rfl ha hb hc hm
theorem at_ltlt (ha : AV X a ρ A (.int i)) (hb : AV X b ρ A (.int j)) (hc : AV X c ρ A (.int l)) (hm : lastMarks [.Lt, .Lt] [b, c] = false := by with_unfolding_all rfl) : AT X (.Compare a [.Lt, .Lt] [b, c] pos) ρ A (decide (i < j) && decide (j < l)) :=
  at_ch (g := fun i j => decide (i < j)) (g' := fun i j => decide (i < j)) op_lt op_lt rfl rfl ha hb hc hm
theorem at_lelt (ha : AV X a ρ A (.int i)) (hb : AV X b ρ A (.int j)) (hc : AV X c ρ A (.int l)) (hm : lastMarks [.LtE, .Lt] [b, c] = false := by with_unfolding_all rfl) : AT X (.Compare a [.LtE, .Lt] [b, c] pos) ρ A (decide (i ≤ j) && decide (j < l)) :=
  at_ch (g := fun i j => decide (i ≤ j)) (g' := fun i j => decide (i < j)) op_le op_lt rfl rfl ha hb hc hm
end
theorem atR {g : Nat → D} {n i : Nat} {j : Int} (e : j = (i : Int)) (h : i < n) : atI ((List.range n).map g) j = some (g i) := by
  subst e
  exact atI_map (by rw [List.getElem?_range h])
theorem atR1 {g : Nat → D} {n : Nat} : atI ((List.range (n + 1)).map g) (-1) = some (g n) := by
  have h := atM1 (f := g) (xs := List.range (n + 1)) (n := n) 0 (by simp)
  rw [h, List.getD_eq_getElem?_getD, List.getElem?_range (by omega)]
  rfl
theorem range_push (g : Nat → D) (n : Nat) : (List.range n).map g ++ [g n] = (List.range (n + 1)).map g := by rw [List.range_succ, List.map_append]; rfl
theorem sz_pow {t : Rat} {m : Nat} (h : Sz m t) (k : Nat) : Sz (k * m + 1) (t ^ k) := by
  induction k with
  | zero => rw [Rat.pow_zero, Nat.zero_mul]; exact sz_one
  | succ k ih => rw [Rat.pow_succ, Nat.succ_mul]; exact (sz_mul ih h).up (by omega)
theorem sz_powU {t : Rat} {m M k n : Nat} (h : Sz m t) (hk : k ≤ n) (hM : n * m + 1 ≤ M) : Sz M (t ^ k) := (sz_pow h k).up (by have := Nat.mul_le_mul_right m hk; omega)
theorem bt_powU {i : Int} {a M k n : Nat} (h : i.natAbs < 2 ^ a) (hk : k ≤ n) (hM : n * a + 1 ≤ M) : (i ^ k).natAbs < 2 ^ M := bt_le (bt_pow h k) (by have := Nat.mul_le_mul_right a hk; omega)
/-! ### sums and weights -/
def sumN (f : Nat → Rat) : Nat → Rat
  | 0 => 0
  | n + 1 => sumN f n + f n
theorem sumN_first (f : Nat → Rat) (n : Nat) : sumN f (n + 1) = f 0 + sumN (fun k => f (k + 1)) n := by
  induction n with
  | zero => show 0 + f 0 = f 0 + 0; grind
  | succ n ih => show sumN f (n + 1) + f (n + 1) = f 0 + (sumN (fun k => f (k + 1)) n + f (n + 1)); rw [ih]; grind
theorem sumN_add (f g : Nat → Rat) (n : Nat) : sumN (fun k => f k + g k) n = sumN f n + sumN g n := by
  induction n with
  | zero => show (0 : Rat) = 0 + 0; grind
  | succ n ih => show sumN _ n + (f n + g n) = sumN f n + f n + (sumN g n + g n); rw [ih]; grind
theorem sumN_mul (c : Rat) (f : Nat → Rat) (n : Nat) : sumN (fun k => c * f k) n = c * sumN f n := by
  induction n with
  | zero => show (0 : Rat) = c * 0; grind
  | succ n ih => show sumN _ n + c * f n = c * (sumN f n + f n); rw [ih]; grind
theorem sumN_congr {f g : Nat → Rat} {n : Nat} (h : ∀ k, k < n → f k = g k) : sumN f n = sumN g n := by
  induction n with
  | zero => rfl
  | succ n ih => show sumN f n + f n = sumN g n + g n; rw [ih (fun k hk => h k (by omega)), h n (by omega)]
/-- how many ways there are to choose -/
def ch : Nat → Nat → Nat
  | _, 0 => 1
  | 0, _ + 1 => 0
  | n + 1, k + 1 => ch n k + ch n (k + 1)
theorem ch_zero (n : Nat) : ch n 0 = 1 := by cases n <;> rfl
theorem ch_over : ∀ {n k : Nat}, n < k → ch n k = 0 := by
  intro n
  induction n with
  | zero => intro k h; match k, h with | k + 1, _ => rfl
  | succ n ih =>
    intro k h
    match k, h with
    | k + 1, h => show ch n k + ch n (k + 1) = 0; rw [ih (by omega), ih (by omega)]
theorem ch_step : ∀ n k : Nat, (ch n k : Int) * ((n : Int) - k) = ch n (k + 1) * ((k : Int) + 1) := by
  intro n
  induction n with
  | zero =>
    intro k
    match k with
    | 0 => rfl
    | k + 1 => show ((0 : Nat) : Int) * _ = ((0 : Nat) : Int) * _; simp
  | succ n ih =>
    intro k
    match k with
    | 0 =>
      show ((1 : Nat) : Int) * _ = ((ch n 0 + ch n 1 : Nat) : Int) * _
      have h0 := ih 0
      rw [ch_zero] at h0
      rw [ch_zero]
      push_cast at h0 ⊢
      grind
    | k + 1 =>
      show ((ch n k + ch n (k + 1) : Nat) : Int) * _ = ((ch n (k + 1) + ch n (k + 1 + 1) : Nat) : Int) * _
      have h0 := ih k
      have h1 := ih (k + 1)
      push_cast at h0 h1 ⊢
      grind
theorem ch_le : ∀ n k : Nat, ch n k ≤ 2 ^ n := by
  intro n
  induction n with
  | zero => intro k; match k with | 0 => decide | k + 1 => exact Nat.zero_le _
  | succ n ih =>
    intro k
    match k with
    | 0 => exact Nat.one_le_two_pow
    | k + 1 => show ch n k + ch n (k + 1) ≤ _; have := ih k; have := ih (k + 1); rw [Nat.pow_succ]; omega
/-- what ways() reckons -/
theorem ch_div (n k : Nat) : (ch n k : Int) * ((n : Int) - k) / ((k : Int) + 1) = ch n (k + 1) := by
  rw [ch_step]
  exact Int.mul_ediv_cancel _ (by omega)
def bern (n k : Nat) (t : Rat) : Rat := (ch n k : Rat) * (t ^ k * (1 - t) ^ (n - k))
theorem bern_over {n k : Nat} (t : Rat) (h : n < k) : bern n k t = 0 := by unfold bern; rw [ch_over h]; simp
theorem bern_first (n : Nat) (t : Rat) : bern (n + 1) 0 t = (1 - t) * bern n 0 t := by
  unfold bern
  rw [ch_zero, ch_zero]
  simp only [Nat.sub_zero, Rat.pow_zero, Rat.pow_succ]
  grind
theorem bern_step {n k : Nat} (t : Rat) (h : k ≤ n) : bern (n + 1) (k + 1) t = t * bern n k t + (1 - t) * bern n (k + 1) t := by
  unfold bern
  have e1 : ((ch (n + 1) (k + 1) : Nat) : Rat) = (ch n k : Rat) + (ch n (k + 1) : Rat) := by
    show ((ch n k + ch n (k + 1) : Nat) : Rat) = _
    push_cast
    rfl
  have e2 : n + 1 - (k + 1) = n - k := by omega
  rw [e1, e2]
  by_cases hk : k < n
  · have e3 : n - k = (n - (k + 1)) + 1 := by omega
    rw [e3]
    simp only [Rat.pow_succ]
    grind
  · have e3 : ch n (k + 1) = 0 := ch_over (by omega)
    rw [e3]
    simp only [Rat.pow_succ]
    grind
/-- going between, by places -/
def cas (t : Rat) (x : Nat → Rat) : Nat → Nat → Rat
  | 0, i => x i
  | j + 1, i => cas t x j i + t * (cas t x j (i + 1) - cas t x j i)
theorem cas_bern (t : Rat) (x : Nat → Rat) : ∀ j i, cas t x j i = sumN (fun k => bern j k t * x (i + k)) (j + 1) := by
  intro j
  induction j with
  | zero =>
    intro i
    show x i = 0 + bern 0 0 t * x i
    unfold bern
    rw [ch_zero]
    simp only [Nat.sub_zero, Rat.pow_zero]
    grind
  | succ j ih =>
    intro i
    show cas t x j i + t * (cas t x j (i + 1) - cas t x j i) = _
    rw [ih i, ih (i + 1), sumN_first (fun k => bern (j + 1) k t * x (i + k)) (j + 1)]
    show _ = bern (j + 1) 0 t * x (i + 0) + sumN (fun k => bern (j + 1) (k + 1) t * x (i + (k + 1))) (j + 1)
    have e1 : sumN (fun k => bern (j + 1) (k + 1) t * x (i + (k + 1))) (j + 1) = sumN (fun k => t * (bern j k t * x (i + 1 + k)) + (1 - t) * (bern j (k + 1) t * x (i + (k + 1)))) (j + 1) := sumN_congr fun k hk => by
      rw [bern_step t (show k ≤ j by omega), show i + 1 + k = i + (k + 1) by omega]
      grind
    rw [e1, sumN_add, sumN_mul, sumN_mul, bern_first]
    have e2 : sumN (fun k => bern j k t * x (i + k)) (j + 1 + 1) = sumN (fun k => bern j k t * x (i + k)) (j + 1) := by
      show sumN _ (j + 1) + bern j (j + 1) t * x (i + (j + 1)) = _
      rw [bern_over t (by omega)]
      grind
    have e3 := sumN_first (fun k => bern j k t * x (i + k)) (j + 1)
    rw [e2] at e3
    have e4 : i + 0 = i := rfl
    generalize sumN (fun k => bern j k t * x (i + k)) (j + 1) = S at *
    generalize sumN (fun k => bern j k t * x (i + 1 + k)) (j + 1) = S1 at *
    generalize sumN (fun k => bern j (k + 1) t * x (i + (k + 1))) (j + 1) = S2 at *
    grind
theorem cas_one (t : Rat) : ∀ j i, cas t (fun _ => 1) j i = 1 := by
  intro j
  induction j with
  | zero => intro i; rfl
  | succ j ih => intro i; show cas t _ j i + t * (cas t _ j (i + 1) - cas t _ j i) = 1; rw [ih, ih]; grind
theorem bern_sum (n : Nat) (t : Rat) : sumN (fun k => bern n k t) (n + 1) = 1 := by
  have h := cas_bern t (fun _ => 1) n 0
  rw [cas_one] at h
  rw [h]
  exact sumN_congr fun k _ => by grind
theorem iterR_cas (t : Rat) (row : List Pt) : ∀ j i, i + j < row.length → (gp (iterR t row j) i).1 = cas t (fun k => (gp row k).1) j i ∧ (gp (iterR t row j) i).2 = cas t (fun k => (gp row k).2) j i := by
  intro j
  induction j with
  | zero => intro i _; exact ⟨rfl, rfl⟩
  | succ j ih =>
    intro i h
    have e : gp (iterR t row (j + 1)) i = onWay (gp (iterR t row j) i) (gp (iterR t row j) (i + 1)) t := nextR_gp (by rw [iterR_len]; omega)
    rw [e]
    have h1 := ih i (by omega)
    have h2 := ih (i + 1) (by omega)
    unfold onWay
    show _ + t * (_ - _) = _ + t * (_ - _) ∧ _ + t * (_ - _) = _ + t * (_ - _)
    rw [h1.1, h1.2, h2.1, h2.2]
    exact ⟨rfl, rfl⟩
theorem point_bern {t : Rat} {row : List Pt} (h : 0 < row.length) : pointR t row = (sumN (fun k => bern (row.length - 1) k t * (gp row k).1) row.length, sumN (fun k => bern (row.length - 1) k t * (gp row k).2) row.length) := by
  have e := iterR_cas t row (row.length - 1) 0 (by omega)
  have hl : row.length - 1 + 1 = row.length := by omega
  rw [cas_bern, cas_bern, hl] at e
  have e0 : ∀ k, 0 + k = k := fun k => by omega
  simp only [e0] at e
  exact Prod.ext e.1 e.2
theorem rpow_add (b : Rat) (m n : Nat) : b ^ (m + n) = b ^ m * b ^ n := by
  induction n with
  | zero => rw [Nat.add_zero, Rat.pow_zero]; grind
  | succ n ih => rw [← Nat.add_assoc, Rat.pow_succ, Rat.pow_succ, ih]; grind
theorem rmul_pow (a b : Rat) (n : Nat) : (a * b) ^ n = a ^ n * b ^ n := by
  induction n with
  | zero => rw [Rat.pow_zero, Rat.pow_zero, Rat.pow_zero]; grind
  | succ n ih => rw [Rat.pow_succ, Rat.pow_succ, Rat.pow_succ, ih]; grind
theorem rpow_ne {b : Rat} (h : b ≠ 0) (n : Nat) : b ^ n ≠ 0 := by
  induction n with
  | zero => rw [Rat.pow_zero]; decide
  | succ n ih => rw [Rat.pow_succ]; exact fun e => (Rat.mul_eq_zero.mp e).elim ih h
/-- a weight by whole numbers -/
theorem bern_frac (n k : Nat) (t : Rat) (h : k ≤ n) : bern n k t = (((ch n k : Int) * t.num ^ k * ((t.den : Int) - t.num) ^ (n - k) : Int) : Rat) / (((t.den : Int) ^ n : Int) : Rat) := by
  have h1 := rat_eq t
  have h2 := den_ne t
  have e1 : (((ch n k : Int) * t.num ^ k * ((t.den : Int) - t.num) ^ (n - k) : Int) : Rat) = (ch n k : Rat) * (t.num : Rat) ^ k * ((t.den : Rat) - (t.num : Rat)) ^ (n - k) := by push_cast; rfl
  have e2 : (((t.den : Int) ^ n : Int) : Rat) = (t.den : Rat) ^ n := by push_cast; rfl
  rw [e1, e2]
  unfold bern
  generalize (t.num : Rat) = a at *
  generalize (t.den : Rat) = b at *
  have e3 : b ^ n = b ^ k * b ^ (n - k) := by rw [← rpow_add]; congr 1; omega
  have e4 : t * b = a := by subst h1; grind
  have e5 : (1 - t) * b = b - a := by subst h1; grind
  have e6 : t ^ k * b ^ k = a ^ k := by rw [← rmul_pow, e4]
  have e7 : (1 - t) ^ (n - k) * b ^ (n - k) = (b - a) ^ (n - k) := by rw [← rmul_pow, e5]
  have h8 : b ^ k ≠ 0 := rpow_ne h2 _
  have h9 : b ^ (n - k) ≠ 0 := rpow_ne h2 _
  rw [e3, ← e6, ← e7]
  generalize b ^ k = u at *
  generalize b ^ (n - k) = v at *
  have h10 : u * v ≠ 0 := fun h => (Rat.mul_eq_zero.mp h).elim h8 h9
  grind
/-- the tops of the weights -/
def topW (n : Nat) (t : Rat) (k : Nat) : Int := (ch n k : Int) * t.num ^ k * ((t.den : Int) - t.num) ^ (n - k)
theorem bern_top {n k : Nat} (t : Rat) (h : k ≤ n) : bern n k t = ((topW n t k : Int) : Rat) / (((t.den : Int) ^ n : Int) : Rat) := bern_frac n k t h
def sumI (f : Nat → Int) : Nat → Int
  | 0 => 0
  | n + 1 => sumI f n + f n
theorem sumI_cast (f : Nat → Int) (n : Nat) : ((sumI f n : Int) : Rat) = sumN (fun k => ((f k : Int) : Rat)) n := by
  induction n with
  | zero => rfl
  | succ n ih => show ((sumI f n + f n : Int) : Rat) = sumN _ n + _; rw [← ih]; push_cast; rfl
theorem sum_range (f : Nat → Int) (n : Nat) : ((List.range n).map f).sum = sumI f n := by
  induction n with
  | zero => rfl
  | succ n ih => rw [List.range_succ, List.map_append, List.sum_append, ih]; show sumI f n + (f n + 0) = _; rw [Int.add_zero]; rfl
theorem top_sum (n : Nat) (t : Rat) : sumI (topW n t) (n + 1) = (t.den : Int) ^ n := by
  have h := bern_sum n t
  have hne : (((t.den : Int) ^ n : Int) : Rat) ≠ 0 := fun e => (Int.pow_ne_zero (show (t.den : Int) ≠ 0 by have := den_pos t; omega) : (t.den : Int) ^ n ≠ 0) (by exact_mod_cast e)
  have e : sumN (fun k => bern n k t) (n + 1) = sumN (fun k => (1 / (((t.den : Int) ^ n : Int) : Rat)) * ((topW n t k : Int) : Rat)) (n + 1) := sumN_congr fun k hk => by
    rw [bern_top t (by omega)]
    grind
  rw [e, sumN_mul, ← sumI_cast] at h
  have h2 : ((sumI (topW n t) (n + 1) : Int) : Rat) = (((t.den : Int) ^ n : Int) : Rat) := by
    generalize ((sumI (topW n t) (n + 1) : Int) : Rat) = u at *
    generalize (((t.den : Int) ^ n : Int) : Rat) = v at *
    grind
  exact_mod_cast h2
theorem top_nonneg {n k : Nat} {t : Rat} (h0 : 0 ≤ t.num) (h1 : t.num ≤ (t.den : Int)) : 0 ≤ topW n t k :=
  Int.mul_nonneg (Int.mul_nonneg (by omega) (Int.pow_nonneg h0)) (Int.pow_nonneg (by omega))
theorem topW_bt {n k a : Nat} {t : Rat} (h : Sz a t) (hn : n ≤ 12) (hk : k ≤ n) : (topW n t k).natAbs < 2 ^ (14 * (a + 1) + 70) := by
  unfold topW
  have h1 : ((ch n k : Nat) : Int).natAbs < 2 ^ 13 := by
    rw [Int.natAbs_natCast]
    exact Nat.lt_of_le_of_lt (ch_le n k) (Nat.pow_lt_pow_right (by decide) (by omega))
  have h2 := bt_pow h.num k
  have h3 := bt_pow (bt_sub h.den h.num) (n - k)
  refine bt_le (bt_mul (bt_mul h1 h2) h3) ?_
  have e1 : k * a ≤ k * (a + 1) := Nat.mul_le_mul_left _ (by omega)
  have e2 : (n - k) * (max a a + 1) = (n - k) * (a + 1) := by rw [Nat.max_self]
  have e3 : k * (a + 1) + (n - k) * (a + 1) = n * (a + 1) := by rw [← Nat.add_mul]; congr 1; omega
  have e4 : n * (a + 1) ≤ 12 * (a + 1) := Nat.mul_le_mul_right _ hn
  rw [e2]
  omega
end C7
namespace C7
open PySem PySem.Spec PyProof.Rows L2
/-! ### lists that are written no more: data by value -/
mutual
inductive Fr (A0 A : AH) : D → D → Prop
  | same (d : D) : Fr A0 A d d
  | lst {p : Addr} {ds vs : List D} : A0 p = none → A p = some (.lst ds) → Frs A0 A ds vs → Fr A0 A (.ref p) (.fz vs)
  | tup {ds vs : List D} : Frs A0 A ds vs → Fr A0 A (.tup ds) (.tup vs)
inductive Frs (A0 A : AH) : List D → List D → Prop
  | nil : Frs A0 A [] []
  | cons {d v : D} {ds vs : List D} : Fr A0 A d v → Frs A0 A ds vs → Frs A0 A (d :: ds) (v :: vs)
end
theorem Frs.refl {A0 A : AH} : ∀ ds : List D, Frs A0 A ds ds
  | [] => .nil
  | d :: ds => .cons (.same d) (Frs.refl ds)
/-- some of the new lists are locked by now -/
def RelF (K : Frag) (A0 A : AH) (H : Hp) : Prop := ∀ a o, A a = some o → (∃ u, H a = some u ∧ RelA K H o u) ∨ (A0 a = none ∧ ∃ ds vs ob, o = .lst ds ∧ H a = some (.frz ob (.lst vs)) ∧ Rps K H vs ds)
theorem RelF.put {K : Frag} {A0 A : AH} {H : Hp} (r : RelF K A0 A H) {p : Addr} {ds : List D} {vs : List V} {ob : Obj} (h0 : A0 p = none) (hA : A p = some (.lst ds)) (hp : H p = some (.lst vs)) (hr : Rps K H vs ds) :
    TS H (upd H p (.frz ob (.lst vs))) ∧ RelF K A0 A (upd H p (.frz ob (.lst vs))) := by
  have t : TS H (upd H p (.frz ob (.lst vs))) := TS.put hp (fun _ z => nomatch z) (fun _ _ z => nomatch z)
  refine ⟨t, fun a o q => ?_⟩
  by_cases e : a = p
  · subst e
    rw [hA] at q
    cases q
    exact .inr ⟨h0, ds, vs, ob, rfl, upd_same, hr.mono t⟩
  · rcases r a o q with ⟨u, e1, e2⟩ | ⟨e0, ds', vs', ob', e1, e2, e3⟩
    · exact .inl ⟨u, by rw [upd_ne e]; exact e1, e2.mono t⟩
    · exact .inr ⟨e0, ds', vs', ob', e1, by rw [upd_ne e]; exact e2, e3.mono t⟩
section
variable {X : Cx} {A0 A : AH} {pins : List (Addr × Obj)} {σ : L2.St} {s : Shared}
mutual
theorem Fr.go : ∀ {d v : D}, Fr A0 A d v → ∀ H, Inv X pins σ H s → RelF X.K A0 A H → ∃ H1, Inv X pins σ H1 s ∧ TS H H1 ∧ RelF X.K A0 A H1 ∧ ∀ H2, TS H1 H2 → ∀ x, Rp X.K H2 x d → Rp X.K H2 x v
  | _, _, .same d => fun H I r => ⟨H, I, TS.refl H, r, fun _ _ _ q => q⟩
  | _, _, .tup hs => fun H I r => by
    obtain ⟨H1, I1, t1, r1, q1⟩ := Frs.go hs H I r
    refine ⟨H1, I1, t1, r1, fun H2 t2 x q => ?_⟩
    obtain ⟨a, vs, rfl, h1, h2⟩ := q.tup_of
    exact .tup h1 (q1 H2 t2 vs h2)
  | _, _, .lst (p := p) h0 hA hs => fun H I r => by
    obtain ⟨H1, I1, t1, r1, q1⟩ := Frs.go hs H I r
    rcases r1 p _ hA with ⟨u, e1, vs, e2, e3⟩ | ⟨_, ds', vs, ob, e0, e1, e2⟩
    · subst e2
      obtain ⟨od, I2⟩ := I1.lock e1 trivial
      obtain ⟨t2, r2⟩ := r1.put (ob := od) h0 hA e1 e3
      refine ⟨_, I2, t1.trans t2, r2, fun H3 t3 x q => ?_⟩
      rw [q.ref_of]
      exact .fz (t3.z _ _ _ upd_same fun _ z => nomatch z) (q1 H3 (t2.trans t3) vs ((e3.mono t2).mono t3))
    · cases e0
      refine ⟨H1, I1, t1, r1, fun H3 t3 x q => ?_⟩
      rw [q.ref_of]
      exact .fz (t3.z _ _ _ e1 fun _ z => nomatch z) (q1 H3 t3 vs (e2.mono t3))
theorem Frs.go : ∀ {ds vs : List D}, Frs A0 A ds vs → ∀ H, Inv X pins σ H s → RelF X.K A0 A H → ∃ H1, Inv X pins σ H1 s ∧ TS H H1 ∧ RelF X.K A0 A H1 ∧ ∀ H2, TS H1 H2 → ∀ xs, Rps X.K H2 xs ds → Rps X.K H2 xs vs
  | _, _, .nil => fun H I r => ⟨H, I, TS.refl H, r, fun _ _ _ q => q⟩
  | _, _, .cons h hs => fun H I r => by
    obtain ⟨H1, I1, t1, r1, q1⟩ := Fr.go h H I r
    obtain ⟨H2, I2, t2, r2, q2⟩ := Frs.go hs H1 I1 r1
    refine ⟨H2, I2, t1.trans t2, r2, fun H3 t3 xs q => ?_⟩
    cases q with
    | cons a b => exact .cons (q1 H3 (t2.trans t3) _ a) (q2 H3 t3 _ b)
end
theorem Fr.lock {d v : D} {H : Hp} (f : Fr A0 A d v) (x : Ext A0 A) (I : Inv X pins σ H s) (r : Rel X.K A H) : ∃ H1, Inv X pins σ H1 s ∧ TS H H1 ∧ Rel X.K A0 H1 ∧ ∀ H2, TS H1 H2 → ∀ y, Rp X.K H2 y d → Rp X.K H2 y v := by
  obtain ⟨H1, I1, t1, r1, q1⟩ := f.go H I (fun a o q => .inl (r a o q))
  refine ⟨H1, I1, t1, fun a o q => ?_, q1⟩
  rcases r1 a o (x a o q) with h | ⟨h, _⟩
  · exact h
  · rw [q] at h; cases h
end
section
variable {X : Cx} {W : WX} {ρ : Ro} {A A0 : AH} {e a b c : Expr} {es : List Expr} {pos p0 : Pos} {d x y v : D} {k : AK} {ds : List D} {sts rest : List Stmt} {E : AEnds}
/-- what a value has of new lists is locked -/
theorem AE.frz (h : AE X e ρ A fun d A' => ∃ A0 v, Ext A0 A' ∧ Fr A0 A' d v ∧ k v A0) : AE X e ρ A k := fun σ H s Q q => ⟨fun pins st I =>
  thn ((h σ H s (fun v0 H' => ∃ d A' A0 v, TS H H' ∧ Rp X.K H' v0 d ∧ Rel X.K A' H' ∧ Ext A0 A' ∧ Fr A0 A' d v ∧ k v A0) (fun v0 H' d A' t r l ⟨A0, v, h1, h2, h3⟩ => ⟨d, A', A0, v, t, r, l, h1, h2, h3⟩)).go pins st I) fun u s' hu => by
    obtain ⟨v0, H', I', rv, d, A', A0, v, t, r, l, h1, h2, h3⟩ := hu
    obtain ⟨H1, I1, t1, r1, q1⟩ := h2.lock h1 I' l
    exact ⟨v0, H1, I1, rv, q v0 H1 v A0 (t.trans t1) (q1 H1 (TS.refl H1) _ (r.mono t1)) r1 h3⟩⟩
theorem AE.fz (h : AE X e ρ A fun d A' => ∃ A0 p vs ds, d = .ref p ∧ A0 p = none ∧ Ext A0 A' ∧ A' p = some (.lst ds) ∧ Frs A0 A' ds vs ∧ k (.fz vs) A0) : AE X e ρ A k :=
  AE.frz (h.mono fun d A' ⟨A0, p, vs, ds, e, h0, x, hA, hs, hk⟩ => ⟨A0, .fz vs, x, by rw [e]; exact .lst h0 hA hs, hk⟩)
theorem AL.av (h : AL X e ρ A ds) : AV X e ρ A (.fz ds) := AE.av (AE.fz (h.ae fun p hp => ⟨A, p, ds, ds, rfl, hp, Ext.new hp, aupd_same, Frs.refl ds, rfl, Ext.refl A⟩))
/-- a local's new lists are locked, ahead of what follows -/
theorem as_frz (i : Nat) (hd : ρ[i]? = some (some d)) (x : Ext A0 A) (f : Fr A0 A d v) (h : AS X W sts (ρ.set i (some v)) A0 E) : AS X W sts ρ A E := fun σ H s D q => ⟨fun pins st I => by
  obtain ⟨H1, I1, t1, r1, q1⟩ := f.lock x I s.hp
  refine (h σ H1 ⟨?_, fun j d' e => ?_, r1⟩ D (q.mono t1)).go pins st I1
  · rw [List.length_set]; exact s.len
  · by_cases hj : j = i
    · subst hj
      have hl : j < ρ.length := by
        rcases Nat.lt_or_ge j ρ.length with z | z
        · exact z
        · rw [List.getElem?_eq_none z] at hd; cases hd
      rw [List.getElem?_set_self hl] at e
      cases e
      obtain ⟨w, e1, e2⟩ := s.val j d hd
      exact ⟨w, e1, q1 H1 (TS.refl H1) _ (e2.mono t1)⟩
    · rw [List.getElem?_set_ne (Ne.symm hj)] at e
      obtain ⟨w, e1, e2⟩ := s.val j d' e
      exact ⟨w, e1, e2.mono t1⟩⟩
/-- .. one list -/
theorem as_fz (i : Nat) {p : Addr} (hd : ρ[i]? = some (some (.ref p))) (h0 : A p = none) (h : AS X W sts (ρ.set i (some (.fz ds))) A E) : AS X W sts ρ (aupd A p (.lst ds)) E :=
  as_frz i hd (Ext.new h0) (.lst h0 aupd_same (Frs.refl ds)) h

/-! ### names for what is stored -/
section
variable {β : Type} {f : β → D} {z : β} {i : Nat} {n : Str} {pos' : Pos}
theorem as_setv (hN : X.N.Nodup) (hi : X.N[i]? = some n) (hx : Loc X.env.scope n) (h : AV X e ρ A (f z)) (q : ∀ y, y = z → AS X W rest (ρ.set i (some (f y))) A E) (hs : swapsWith e (some (.Name n pos')) pos.line X.env = pure false := by rfl)
    (hf : X.fn n = true ∨ X.env.scope.names.lookup n = some .local := by first | exact .inl rfl | exact .inr rfl | assumption) : AS X W (.Assign [.Name n pos'] e pos :: rest) ρ A E := as_set hN hi hx (h.ae (q z rfl)) hs hf
/-- x op= e -/
theorem as_augv {op : Operator} {g : Int → Int → Int} {u w : Int} (hp : PIp X op (ipI g)) (hN : X.N.Nodup) (hi : X.N[i]? = some n) (hx : Loc X.env.scope n) (hv : ρ[i]? = some (some (.int u))) (h : AV X e ρ A (.int w)) (q : ∀ y, y = g u w → AS X W rest (ρ.set i (some (.int y))) A E)
    (hf : X.fn n = true ∨ X.env.scope.names.lookup n = some .local := by first | exact .inl rfl | exact .inr rfl | assumption) : AS X W (.AugAssign (.Name n pos') op e pos :: rest) ρ A E := as_cons (a1_augI hp hN hi hx hv h (q _ rfl) hf)
/-- if c: x = .. ; what is known of x behind it is Pv -/
theorem as_if1 {th el : List Stmt} {bb : Bool} (Pv : β → Prop) (i : Nat) (h : AT X c ρ A bb) (h1 : bb = true → AS X W th ρ A { E with nx := fun ρ' A' => ∃ y, Pv y ∧ ρ' = ρ.set i (some (f y)) ∧ A' = A })
    (h2 : bb = false → AS X W el ρ A { E with nx := fun ρ' A' => ∃ y, Pv y ∧ ρ' = ρ.set i (some (f y)) ∧ A' = A }) (hr : ∀ y, Pv y → AS X W rest (ρ.set i (some (f y))) A E) : AS X W (.If c th el pos :: rest) ρ A E :=
  as_ifm _ h h1 h2 fun ρ' A' ⟨y, hy, e1, e2⟩ => by subst e1 e2; exact hr y hy
end
/-! ### by value -/
abbrev fzs {β : Type} (f : β → D) (xs : List β) : D := .fz (xs.map f)
section
variable {β γ : Type} {f : β → D} {g : γ → D} {xs ys : List β} {zs : List γ} {i : Int}
theorem getD_mapF (d0 : β) {i : Nat} (h : i < xs.length) : (xs.map f).getD i .non = f (xs.getD i d0) := by
  rw [List.getD_eq_getElem?_getD, List.getD_eq_getElem?_getD, List.getElem?_map, List.getElem?_eq_getElem h]
  rfl
theorem av_ixF (d0 : β) (ha : AV X a ρ A (.fz (xs.map f))) (hb : AV X b ρ A (.int i)) (h0 : 0 ≤ i) (h1 : i < xs.length) (hs : PlainIx b := by intro _ _; rfl) : AV X (.Subscript a b pos) ρ A (f (xs.getD i.toNat d0)) := av_ixL ha hb IsL.fz (atG d0 h0 h1) hs
theorem av_ixN (d0 : β) {n : Nat} (ha : AV X a ρ A (.fz (xs.map f))) (hb : AV X b ρ A (.int i)) (e : i = (n : Int)) (h1 : n < xs.length) (hs : PlainIx b := by intro _ _; rfl) : AV X (.Subscript a b pos) ρ A (f (xs.getD n d0)) := by
  subst e
  exact av_ixL ha hb IsL.fz (atG d0 (Int.natCast_nonneg n) (by omega)) hs
/-- from the end -/
theorem av_ixB (d0 : β) {n : Nat} (ha : AV X a ρ A (.fz (xs.map f))) (hb : AV X b ρ A (.int i)) (e : i = -(n : Int)) (h0 : 0 < n) (h1 : n ≤ xs.length) (hs : PlainIx b := by intro _ _; rfl) : AV X (.Subscript a b pos) ρ A (f (xs.getD (xs.length - n) d0)) := by
  refine av_ixL ha hb IsL.fz ?_ hs
  unfold atI
  have e' : ixN (xs.map f).length i = some (xs.length - n) := by
    rw [List.length_map]
    unfold ixN
    rw [if_neg (by omega), if_pos (by omega)]
    congr 1
    omega
  rw [e']
  show (xs.map f)[xs.length - n]? = _
  rw [List.getElem?_map, List.getD_eq_getElem?_getD, List.getElem?_eq_getElem (show xs.length - n < xs.length by omega)]
  rfl
theorem av_lenF (hg : Gl X "len") (hm : X.mg "len" = none) (h : AV X a ρ A (.fz (xs.map f))) (hs : starEach [a] X.env = [(false, eval a X.env)] := by rfl) : AV X (.Call (.Name "len" p0) [a] [] pos) ρ A (.int (xs.length : Nat)) := by
  have := av_lenL (pos := pos) (p0 := p0) hg hm h IsL.fz hs
  rw [List.length_map] at this
  exact this
theorem av_lenD (hg : Gl X "len") (hm : X.mg "len" = none) (h : AV X a ρ A x) (hl : IsL A x (xs.map f)) (hs : starEach [a] X.env = [(false, eval a X.env)] := by rfl) : AV X (.Call (.Name "len" p0) [a] [] pos) ρ A (.int (xs.length : Nat)) := by
  have := av_lenL (pos := pos) (p0 := p0) hg hm h hl hs
  rw [List.length_map] at this
  exact this
theorem av_listF (hg : Gl X "list") (hm : X.mg "list" = none) (h : AV X a ρ A x) (hl : IsL A x (xs.map f)) (hs : starEach [a] X.env = [(false, eval a X.env)] := by rfl) : AV X (.Call (.Name "list" p0) [a] [] pos) ρ A (.fz (xs.map f)) := AL.av (al_listL hg hm h hl hs)
theorem av_listT (hg : Gl X "list") (hm : X.mg "list" = none) (h : AV X a ρ A (.tup ds)) (hs : starEach [a] X.env = [(false, eval a X.env)] := by rfl) : AV X (.Call (.Name "list" p0) [a] [] pos) ρ A (.fz ds) := AL.av fun k q => ae_list hg hm (h.ae (.inr ⟨ds, rfl, q⟩)) hs
theorem av_tupleF (hg : Gl X "tuple") (hm : X.mg "tuple" = none) (h : AV X a ρ A x) (hl : IsL A x ds) (hs : starEach [a] X.env = [(false, eval a X.env)] := by rfl) : AV X (.Call (.Name "tuple" p0) [a] [] pos) ρ A (.tup ds) := AE.av (ae_tupleL hg hm (h.ae ⟨ds, hl, rfl, Ext.refl A⟩) hs)
theorem av_lst (h : AVs X es ρ A ds) (hl : ds.length ≤ sizeLine := by first | decide | exact Nat.le_of_ble_eq_true rfl) : AV X (.List es pos) ρ A (.fz ds) := (al_lst h hl).av
theorem av_sum {ns : List Int} (hc : X.calm = true) (hg : Gl X "sum") (hm : X.mg "sum" = none) (h : AV X a ρ A (.fz (ns.map D.int))) (hs : starEach [a] X.env = [(false, eval a X.env)] := by rfl) : AV X (.Call (.Name "sum" p0) [a] [] pos) ρ A (.int ns.sum) := AE.av (ae_sum hc hg hm (h.ae ⟨ns, IsL.fz, rfl, Ext.refl A⟩) hs)
theorem av_all {bs : List Bool} (hc : X.calm = true) (hg : Gl X "all") (hm : X.mg "all" = none) (h : AV X a ρ A (.fz (bs.map D.bl))) (hs : starEach [a] X.env = [(false, eval a X.env)] := by rfl) : AV X (.Call (.Name "all" p0) [a] [] pos) ρ A (.bl (bs.all id)) := AE.av (ae_all hc hg hm (h.ae ⟨bs, IsL.fz, rfl, Ext.refl A⟩) hs)
theorem av_any {bs : List Bool} (hc : X.calm = true) (hg : Gl X "any") (hm : X.mg "any" = none) (h : AV X a ρ A (.fz (bs.map D.bl))) (hs : starEach [a] X.env = [(false, eval a X.env)] := by rfl) : AV X (.Call (.Name "any" p0) [a] [] pos) ρ A (.bl (bs.any id)) := AE.av (ae_any hc hg hm (h.ae ⟨bs, IsL.fz, rfl, Ext.refl A⟩) hs)
/-- slices -/
def cutL {β : Type} (xs : List β) (lo hi : Option Int) : List β := (xs.drop (HT.sIx xs.length 0 lo)).take (HT.sIx xs.length xs.length hi - HT.sIx xs.length 0 lo)
theorem cutD_map (lo hi : Option Int) : cutD (xs.map f) lo hi = (cutL xs lo hi).map f := by
  unfold cutD cutL
  rw [List.length_map, List.map_take, List.map_drop]
theorem av_slF {lo hi : Option Expr} {lo' hi' : Option Int} {p2 : Pos} (h : AV X e ρ A x) (hl : IsL A x (xs.map f)) (hlo : AO' X lo ρ A lo') (hhi : AO' X hi ρ A hi') : AV X (.Subscript e (.Slice lo hi none p2) pos) ρ A (.fz ((cutL xs lo' hi').map f)) := by
  have := (al_slL (pos := pos) (p2 := p2) h hl hlo hhi).av
  rw [cutD_map] at this
  exact this
theorem cutL_none {β : Type} (xs : List β) : cutL xs none none = xs := by unfold cutL; rw [HT.sIx_none, HT.sIx_none]; simp
theorem cutL_drop {β : Type} (xs : List β) (n : Nat) : cutL xs (some (n : Int)) none = xs.drop n := by
  unfold cutL
  rw [HT.sIx_none, HT.sIx_nat]
  rcases Nat.le_total n xs.length with h | h
  · rw [Nat.min_eq_left h, List.take_of_length_le (by rw [List.length_drop]; omega)]
  · rw [Nat.min_eq_right h, List.drop_eq_nil_of_le h, List.drop_eq_nil_of_le (Nat.le_refl _)]; simp
theorem cutL_take {β : Type} (xs : List β) (n : Nat) : cutL xs none (some (n : Int)) = xs.take n := by
  unfold cutL
  rw [HT.sIx_none, HT.sIx_nat]
  rcases Nat.le_total n xs.length with h | h
  · rw [Nat.min_eq_left h]; simp
  · rw [Nat.min_eq_right h, List.take_of_length_le h]; simp
theorem av_rev {kk : Nat} {p1 p2 p3 : Pos} (h : AV X e ρ A x) (hl : IsL A x (xs.map f)) : AV X (.Subscript e (.Slice none none (some (.UnaryOp .USub (.Constant (.int 1) kk p1) p2)) p3) pos) ρ A (.fz (xs.reverse.map f)) := by
  rw [List.map_reverse]
  exact AL.av fun k q => ae_revL (h.ae ⟨_, hl, q⟩)
/-- xs + ys, whatever they are -/
def rCatR : R2 := fun x y H Q => ∃ l b xs zs, x = .ref l ∧ y = .ref b ∧ Rd H l (.lst xs) ∧ Rd H b (.lst zs) ∧ xs.length + zs.length ≤ sizeLine ∧ ∀ p, H p = none → Q (.ref p) (upd H p (.lst (xs ++ zs)))
theorem op_catR : OpR X (binaryOp .Add) rCatR := by
  intro pins s σ H x y v u Q I rx ry h
  obtain ⟨l, b, xs, zs, rfl, rfl, hH, hB, hz, q⟩ := h
  cases rx
  cases ry
  obtain ⟨z, its, n, r, e⟩ := hH.ok I.hok
  obtain ⟨z2, its2, n2, r2, e2⟩ := hB.ok I.hok
  have hl := r.length
  have hl2 := r2.length
  refine PySem.P.add_list e e2 ?_ (by rw [List.size_toArray, List.size_toArray]; omega)
  have ea : its.toArray ++ its2.toArray = (its ++ its2).toArray := by simp
  rw [ea]
  exact ⟨.ref _, _, I.lnew (t' := s.toks) (r.append r2) (by rw [List.length_append]; omega), rfl, q _ I.fresh⟩
inductive IsM (A : AH) : D → List D → Prop
  | ref {p : Addr} {ds : List D} (h : A p = some (.lst ds)) : IsM A (.ref p) ds
  | fz (ds : List D) : IsM A (.fz ds) ds
theorem IsM.rd {K : Frag} {A : AH} {H : Hp} {d : D} {ds : List D} {v : V} (l : IsM A d ds) (rv : Rp K H v d) (r : Rel K A H) : ∃ a vs, v = .ref a ∧ Rd H a (.lst vs) ∧ Rps K H vs ds := by
  cases l with
  | ref h =>
    obtain ⟨vs, e, q⟩ := r.lst h
    exact ⟨_, vs, rv.ref_of, .inl e, q⟩
  | fz =>
    obtain ⟨a, o, vs, rfl, h1, h2⟩ := rv.fz_of
    exact ⟨a, vs, rfl, .inr ⟨o, h1⟩, h2⟩
theorem IsM.l {A : AH} {d : D} {ds : List D} (l : IsM A d ds) : IsL A d ds := by
  cases l with
  | ref h => exact IsL.of h
  | fz => exact IsL.fz
theorem ae_catR (h : AE X a ρ A fun x A1 => AE X b ρ A1 fun y A2 => ∃ xs ys, IsM A2 x xs ∧ IsM A2 y ys ∧ xs.length + ys.length ≤ sizeLine ∧ ∀ z, A2 z = none → k (.ref z) (aupd A2 z (.lst (xs ++ ys)))) : AE X (.BinOp a .Add b pos) ρ A k :=
  ae_op op_catR (h.mono fun x A1 h1 => h1.mono fun y A2 ⟨xs, ys, h2, h3, hz, hk⟩ v u H r1 r2 l Q qq => by
    obtain ⟨p, vs, rfl, g1, g2⟩ := h2.rd r1 l
    obtain ⟨q, ws, rfl, g3, g4⟩ := h3.rd r2 l
    exact ⟨p, q, vs, ws, rfl, rfl, g1, g3, by rw [g2.length, g4.length]; exact hz, fun z hz => qq _ _ _ _ (TS.new hz) (.ref z) (l.newL hz (g2.append g4)).2 (hk z (l.none hz))⟩)
theorem av_cat (ha : AV X a ρ A x) (hb : AV X b ρ A y) (h1 : IsM A x (xs.map f)) (h2 : IsM A y (ys.map f)) (hz : xs.length + ys.length ≤ sizeLine) : AV X (.BinOp a .Add b pos) ρ A (.fz ((xs ++ ys).map f)) := by
  rw [List.map_append]
  exact AL.av fun k q => ae_catR (ha.ae (hb.ae ⟨_, _, h1, h2, by rw [List.length_map, List.length_map]; exact hz, q⟩))
/-- [..] * n -/
theorem av_rep {n : Int} (ha : AL X a ρ A (xs.map f)) (hb : ∀ A', Ext A A' → AV X b ρ A' (.int n)) (h0 : 0 ≤ n) (h1 : n ≤ 1000) (hz : xs.length ≤ 1000) : AV X (.BinOp a .Mult b pos) ρ A (.fz ((List.replicate n.toNat xs).flatten.map f)) := by
  refine AL.av fun k q => ae_op op_rep (AE.weak (ha.ae fun p hp => ⟨_, Ext.refl _, (hb _ (Ext.new hp)).ae fun v u H r1 r2 l Q qq => ?_⟩))
  rw [r1.ref_of, r2.int_of]
  obtain ⟨vs, g1, g2⟩ := l.lst aupd_same
  have hl : vs.length = xs.length := by rw [g2.length, List.length_map]
  refine ⟨p, n, vs, rfl, rfl, g1, by omega, by omega, ?_, fun z hz' => ?_⟩
  · rw [hl]
    refine Nat.le_trans (Nat.mul_le_mul hz (show n.toNat ≤ 1000 by omega)) (by decide)
  · have e : ∀ m : Nat, Rps X.K H (List.replicate m vs).flatten ((List.replicate m xs).flatten.map f) := by
      intro m
      induction m with
      | zero => exact .nil
      | succ m ih => rw [List.replicate_succ, List.replicate_succ, List.flatten_cons, List.flatten_cons, List.map_append]; exact g2.append ih
    have hx : Ext (aupd A z (.lst ((List.replicate n.toNat xs).flatten.map f))) (aupd (aupd A p (.lst (xs.map f))) z (.lst ((List.replicate n.toNat xs).flatten.map f))) := (Ext.new hp).upd _ _
    exact qq _ _ _ _ (TS.new hz') (.ref z) ((l.newL hz' (e n.toNat)).2.sub hx) (q z ((Ext.new hp).none (l.none hz')))
/-! ### walks -/
variable {tg : Expr} {kI : AH → (AH → Prop) → Nat → (Nat → D) → Prop}
theorem Wk.to {K : Frag} {H0 : Hp} {J : It} {G G' : AH → Prop} {n : Nat} {f f' : Nat → D} (w : Wk K H0 J G n f) (h : ∀ i, i < n → f i = f' i) (hG : ∀ A, G' A → G A) : Wk K H0 J G' n f' :=
  ⟨fun i H A hi t r g => w.go i H A hi t r (hG A g), fun i H A x H' hi t r g y => by rw [← h i hi]; exact w.yl i H A x H' hi t r (hG A g) y, fun H A t r g => w.st H A t r (hG A g)⟩
theorem AI.to {iter : Expr} (h : AI X tg iter ρ A fun A1 G n f => ∃ G' f', (∀ i, i < n → f i = f' i) ∧ (∀ A, G' A → G A) ∧ kI A1 G' n f') : AI X tg iter ρ A kI := fun σ H s R q =>
  h σ H s R fun J H' A' G n f t l wk ⟨G', f', e, hG, h2⟩ => q J H' A' G' n f' t l (wk.to e hG) h2
theorem ai_F (d0 : β) (h : AV X a ρ A (.fz (xs.map f))) (q : kI A (fun _ => True) xs.length (fun i => f (xs.getD i d0))) : AI X tg a ρ A kI :=
  AI.to (ai_list (h.ae ⟨_, IsL.fz, fun _ => True, fun i => f (xs.getD i d0), fun i hi => getD_mapF d0 (by rw [List.length_map] at hi; exact hi), fun _ _ => IsL.fz, by rw [List.length_map]; exact q⟩))
theorem ai_C {ns : List Int} (h : AV X a ρ A (.cl (ns.map D.int))) (q : kI A (fun _ => True) ns.length (fun i => .int (ns.getD i 0))) : AI X tg a ρ A kI :=
  AI.to (ai_list (h.ae ⟨_, IsL.cl, fun _ => True, fun i => .int (ns.getD i 0), fun i hi => getD_mapF 0 (by rw [List.length_map] at hi; exact hi), fun _ _ => IsL.cl, by rw [List.length_map]; exact q⟩))
/-- over a list that may be written, but not here -/
theorem ai_D (d0 : β) (h : AV X a ρ A x) (hl : IsL A x (xs.map f)) (q : kI A (fun A' => IsL A' x (xs.map f)) xs.length (fun i => f (xs.getD i d0))) : AI X tg a ρ A kI :=
  AI.to (ai_list (h.ae ⟨_, hl, _, fun i => f (xs.getD i d0), fun i hi => getD_mapF d0 (by rw [List.length_map] at hi; exact hi), fun _ z => z, by rw [List.length_map]; exact q⟩))
theorem ai_revF (d0 : β) (hg : Gl X "reversed") (hm : X.mg "reversed" = none) (h : AV X a ρ A (.fz (xs.map f))) (q : kI A (fun _ => True) xs.length (fun i => f (xs.getD (xs.length - 1 - i) d0)))
    (hs : starEach [a] X.env = [(false, eval a X.env)] := by rfl) : AI X tg (.Call (.Name "reversed" p0) [a] [] pos) ρ A kI :=
  AI.to (ai_rev hg hm (h.ae ⟨_, IsL.fz, fun _ => True, fun i => f (xs.getD (xs.length - 1 - i) d0), fun i hi => by rw [List.length_map] at hi ⊢; exact getD_mapF d0 (by omega), fun _ _ => IsL.fz, by rw [List.length_map]; exact q⟩) hs)
theorem ai_enumF (d0 : β) {elts : List Expr} {kk : Nat} {tpos : Pos} (hg : Gl X "enumerate") (hm : X.mg "enumerate" = none) (h : AV X a ρ A (.fz (xs.map f))) (q : kI A (fun _ => True) xs.length (fun i => .tup [.int (i : Nat), f (xs.getD i d0)]))
    (hs : starEach [a] X.env = [(false, eval a X.env)] := by rfl) : AI X (.Tuple elts kk tpos) (.Call (.Name "enumerate" p0) [a] [] pos) ρ A kI :=
  AI.to (ai_enum hg hm (h.ae ⟨_, IsL.fz, fun _ => True, fun i => .tup [.int (i : Nat), f (xs.getD i d0)], fun i hi => by dsimp only; rw [getD_mapF d0 (by rw [List.length_map] at hi; exact hi)], fun _ _ => IsL.fz, by rw [List.length_map]; exact q⟩) hs)
theorem ai_zipF (d0 : β) (e0 : γ) {elts : List Expr} {kk : Nat} {tpos : Pos} (hg : Gl X "zip") (hm : X.mg "zip" = none) (h : AVs X [a, b] ρ A [.fz (xs.map f), .fz (zs.map g)]) (q : kI A (fun _ => True) (min xs.length zs.length) (fun i => .tup [f (xs.getD i d0), g (zs.getD i e0)]))
    (hs : starEach [a, b] X.env = (false, eval a X.env) :: starEach [b] X.env := by rfl) (hpl : (backTo pos (starEach [b] X.env)).any (·.1) = false := by rfl) : AI X (.Tuple elts kk tpos) (.Call (.Name "zip" p0) [a, b] [] pos) ρ A kI :=
  AI.to (ai_zip hg hm (h.aes ⟨_, _, _, _, rfl, IsL.fz, IsL.fz, fun _ => True, fun i => .tup [f (xs.getD i d0), g (zs.getD i e0)], fun i hi => by
    rw [List.length_map, List.length_map] at hi
    dsimp only
    rw [getD_mapF d0 (by omega), getD_mapF e0 (by omega)], fun _ _ => ⟨IsL.fz, IsL.fz⟩, by rw [List.length_map, List.length_map]; exact q⟩) hs hpl)
theorem ai_rng {j : Int} (hg : Gl X "range") (hm : X.mg "range" = none) (h : AV X a ρ A (.int j)) (h1 : -(2 ^ 62) ≤ j) (h2 : j < 2 ^ 62) (q : kI A (fun _ => True) j.toNat (fun i => .int (i : Int))) (hs : starEach [a] X.env = [(false, eval a X.env)] := by rfl) :
    AI X tg (.Call (.Name "range" p0) [a] [] pos) ρ A kI :=
  ai_range1 hg hm (h.ae ⟨j, rfl, h1, h2, by
    have e : (fun i : Nat => D.int (0 + (i : Int))) = fun i : Nat => D.int (i : Int) := by
      funext i
      rw [Int.zero_add]
    rw [e]
    exact q⟩) hs
/-! ### comprehensions, by value -/
variable {iter elt : Expr} {is : List Nat} {scope : Scope} {own : List (Str × Nat)} {F : Nat → β} {n : Nat}
theorem ac_F (hsub : ∀ i ∈ is, i ∈ own.map (·.2))
    (hi : AI X tg iter ρ A fun A1 G n' h => n' = n ∧ A1 = A ∧ n ≤ sizeLine ∧ (∀ A', Ext A1 A' → G A') ∧
      ∀ i, i < n → ∃ ρ2, ∀ (s : Shared) (H : Hp) (C : Addr) (cl : List (Str × Addr)) (fp : List Addr), AG (X.blk s H scope (compEnvC scope cl C X.env) fp) tg is (wipeR ρ (own.map (·.2))) (h i) ρ2 ∧ ∀ A', Ext A1 A' → AV (X.blk s H scope (compEnvC scope cl C X.env) fp) elt ρ2 A' (f (F i)))
    (q : ∀ p, A p = none → k (.ref p) (aupd A p (.lst (((List.range n).map F).map f)))) : AC X elt tg iter scope own ρ A k :=
  ac_lcP (g := fun i => f (F i)) hsub (fun σ H s R qq => hi σ H s R fun J H' A' G n h t l wk ⟨h1, h2, h3⟩ => qq J H' A' G n h t l wk ⟨h1, by rw [h2]; exact Ext.refl A, h3⟩) fun p hp => by
    have e := q p hp
    rw [List.map_map] at e
    exact e
theorem al_lcF (hc : X.calm = true) (hN : X.N.Nodup) (ok : BlkOk X.N X.env.scope scope own) (hsub : ∀ i ∈ is, i ∈ own.map (·.2))
    (hi : AI X tg iter ρ A fun A1 G n' h => n' = n ∧ A1 = A ∧ n ≤ sizeLine ∧ (∀ A', Ext A1 A' → G A') ∧
      ∀ i, i < n → ∃ ρ2, ∀ (s : Shared) (H : Hp) (C : Addr) (cl : List (Str × Addr)) (fp : List Addr), AG (X.blk s H scope (compEnvC scope cl C X.env) fp) tg is (wipeR ρ (own.map (·.2))) (h i) ρ2 ∧ ∀ A', Ext A1 A' → AV (X.blk s H scope (compEnvC scope cl C X.env) fp) elt ρ2 A' (f (F i)))
    (hs : ∀ x, foldedSetIterable iter X.env x = pure x := by intro _; rfl) : AL X (.ListComp elt [⟨tg, iter, [], 0⟩] scope pos) ρ A (((List.range n).map F).map f) := fun k q => (ac_F (is := is) (own := own) hsub hi q).ae hc hN ok hs
theorem AC.frz (h : AC X elt tg iter scope own ρ A fun d A' => ∃ A0 v, Ext A0 A' ∧ Fr A0 A' d v ∧ k v A0) (hc : X.calm = true) (hN : X.N.Nodup) (ok : BlkOk X.N X.env.scope scope own) (hs : ∀ x, foldedSetIterable iter X.env x = pure x := by intro _; rfl) : AE X (.ListComp elt [⟨tg, iter, [], 0⟩] scope pos) ρ A k := AE.frz (h.ae hc hN ok hs)
theorem av_lcF (hc : X.calm = true) (hN : X.N.Nodup) (ok : BlkOk X.N X.env.scope scope own) (hsub : ∀ i ∈ is, i ∈ own.map (·.2))
    (hi : AI X tg iter ρ A fun A1 G n' h => n' = n ∧ A1 = A ∧ n ≤ sizeLine ∧ (∀ A', Ext A1 A' → G A') ∧
      ∀ i, i < n → ∃ ρ2, ∀ (s : Shared) (H : Hp) (C : Addr) (cl : List (Str × Addr)) (fp : List Addr), AG (X.blk s H scope (compEnvC scope cl C X.env) fp) tg is (wipeR ρ (own.map (·.2))) (h i) ρ2 ∧ ∀ A', Ext A1 A' → AV (X.blk s H scope (compEnvC scope cl C X.env) fp) elt ρ2 A' (f (F i)))
    (hs : ∀ x, foldedSetIterable iter X.env x = pure x := by intro _; rfl) : AV X (.ListComp elt [⟨tg, iter, [], 0⟩] scope pos) ρ A (.fz (((List.range n).map F).map f)) := (al_lcF hc hN ok hsub hi hs).av
/-- name = [..] on one line: the list is locked at once -/
theorem as_setLcF {i : Nat} {y : Str} {py spos : Pos} (hc : X.calm = true) (hN : X.N.Nodup) (hy : X.N[i]? = some y) (hyl : X.env.scope.names.lookup y = some .local)
    (hsw : swapsWith (.ListComp elt [⟨tg, iter, [], 0⟩] scope pos) (some (.Name y py)) spos.line X.env = pure true) (ok : BlkOk X.N X.env.scope scope own) (hlen : i < ρ.length) (hsub : ∀ i ∈ is, i ∈ own.map (·.2))
    (hi : AI X tg iter ρ A fun A1 G n' h => n' = n ∧ A1 = A ∧ n ≤ sizeLine ∧ (∀ A', Ext A1 A' → G A') ∧
      ∀ i, i < n → ∃ ρ2, ∀ (s : Shared) (H : Hp) (C : Addr) (cl : List (Str × Addr)) (fp : List Addr), AG (X.blk s H scope (compEnvC scope cl C X.env) fp) tg is (wipeR ρ (own.map (·.2))) (h i) ρ2 ∧ ∀ A', Ext A1 A' → AV (X.blk s H scope (compEnvC scope cl C X.env) fp) elt ρ2 A' (f (F i)))
    (q : ∀ zs, zs = (List.range n).map F → AS X W rest (ρ.set i (some (.fz (zs.map f)))) A E)
    (hs : ∀ x, foldedSetIterable iter X.env x = pure x := by intro _; rfl) : AS X W (.Assign [.Name y py] (.ListComp elt [⟨tg, iter, [], 0⟩] scope pos) spos :: rest) ρ A E :=
  as_setLc hc hN hy hyl hsw ok (ac_F hsub hi fun p hp => as_fz i (List.getElem?_set_self hlen) hp (by rw [List.set_set]; exact q _ rfl)) hs
theorem as_setLcN {α : Type} {enc : α → D} {Q : Nat → α → Prop} {i : Nat} {y : Str} {py spos : Pos} (hc : X.calm = true) (hN : X.N.Nodup) (hy : X.N[i]? = some y) (hyl : X.env.scope.names.lookup y = some .local)
    (hsw : swapsWith (.ListComp elt [⟨tg, iter, [], 0⟩] scope pos) (some (.Name y py)) spos.line X.env = pure true) (ok : BlkOk X.N X.env.scope scope own) (hlen : i < ρ.length) (hsub : ∀ i ∈ is, i ∈ own.map (·.2))
    (hi : AI X tg iter ρ A fun A1 G n' f => n' = n ∧ Ext A A1 ∧ n ≤ sizeLine ∧ (∀ A', Ext A1 A' → G A') ∧
      ∀ i, i < n → ∃ ρ2, ∀ (s : Shared) (H : Hp) (C : Addr) (cl : List (Str × Addr)) (fp : List Addr), AG (X.blk s H scope (compEnvC scope cl C X.env) fp) tg is (wipeR ρ (own.map (·.2))) (f i) ρ2 ∧ ∀ A', Ext A1 A' → AN (X.blk s H scope (compEnvC scope cl C X.env) fp) elt ρ2 A' enc (Q i))
    (q : ∀ as : List α, as.length = n → (∀ i a, as[i]? = some a → Q i a) → AS X W rest (ρ.set i (some (.fz (as.map enc)))) A E)
    (hs : ∀ x, foldedSetIterable iter X.env x = pure x := by intro _; rfl) : AS X W (.Assign [.Name y py] (.ListComp elt [⟨tg, iter, [], 0⟩] scope pos) spos :: rest) ρ A E :=
  as_setLc hc hN hy hyl hsw ok (ac_lcN hsub hi fun as hl hq p hp => as_fz i (List.getElem?_set_self hlen) hp (by rw [List.set_set]; exact q as hl hq)) hs
end
/-- the results of calls, locked -/
theorem fz_k {ds : List D} {k : AK} {q : Addr} (hq : A q = none) (h : k (.fz ds) A) : ∃ A0 v, Ext A0 (aupd A q (.lst ds)) ∧ Fr A0 (aupd A q (.lst ds)) (.ref q) v ∧ k v A0 := ⟨A, .fz ds, Ext.new hq, .lst hq aupd_same (Frs.refl ds), h⟩
end
/-! ### == -/
def eL {α : Type} [DecidableEq α] (e : Enc α) (he : ∀ x, (e.p x).depth ≤ 10) : Enc (List α) where
  d := fun xs => .fz (xs.map e.d)
  p := fun xs => .list (xs.map e.p)
  py := fun A xs => .lst IsL.fz (pysAll e A xs)
  lay := fun xs => layAll e xs
  dep := fun xs => by
    have : ∀ xs : List α, PyData.depthAll (xs.map e.p) ≤ 10 := by
      intro xs
      induction xs with
      | nil => exact Nat.zero_le _
      | cons x xs ih => rw [List.map_cons, PyData.depthAll]; exact Nat.max_le.mpr ⟨he x, ih⟩
    show PyData.depthAll (xs.map e.p) + 1 ≤ 20
    have := this xs
    omega
  eqv := fun x y => eqvAll e x y
theorem map_range_get {α β : Type} (xs : List α) (d0 : α) (F : α → β) : (List.range xs.length).map (fun i => F (xs.getD i d0)) = xs.map F := by
  apply List.ext_getElem?
  intro i
  rw [List.getElem?_map, List.getElem?_map]
  by_cases hi : i < xs.length
  · rw [List.getElem?_range hi, List.getElem?_eq_getElem hi]
    show some (F (xs.getD i d0)) = _
    rw [List.getD_eq_getElem?_getD, List.getElem?_eq_getElem hi]
    rfl
  · rw [List.getElem?_eq_none (by simp; omega), List.getElem?_eq_none (by omega)]
    rfl
end C7
namespace C7
open PySem PySem.Spec PyProof.Rows L2
/-! ### how deep data are -/
def Dp {α : Type} [DecidableEq α] (e : Enc α) (n : Nat) : Prop := ∀ x, (e.p x).depth ≤ n
theorem Dp.up {α : Type} [DecidableEq α] {e : Enc α} {n : Nat} (h : Dp e n) (hn : n ≤ 10) : ∀ x, (e.p x).depth ≤ 10 := fun x => Nat.le_trans (h x) hn
theorem dn_eI : Dp eI 0 := fun _ => Nat.zero_le _
theorem dn_eB : Dp eB 0 := fun _ => Nat.zero_le _
theorem dn_eR : Dp eR 1 := fun q => by
  show PyData.depthAll [.int _, .int _] + 1 ≤ 1
  simp [PyData.depthAll, PyData.depth]
theorem dn_eT {α β : Type} [DecidableEq α] [DecidableEq β] {e : Enc α} {f : Enc β} {m n : Nat} (h1 : Dp e m) (h2 : Dp f n) {he : ∀ x, (e.p x).depth ≤ 10} {hf : ∀ x, (f.p x).depth ≤ 10} : Dp (eT e f he hf) (max m n + 1) := fun x => by
  show PyData.depthAll [e.p x.1, f.p x.2] + 1 ≤ _
  rw [PyData.depthAll, PyData.depthAll, PyData.depthAll]
  have := h1 x.1
  have := h2 x.2
  omega
theorem dn_eP : Dp eP 2 := dn_eT dn_eR dn_eR
theorem dn_eL {α : Type} [DecidableEq α] {e : Enc α} {n : Nat} (h : Dp e n) {he : ∀ x, (e.p x).depth ≤ 10} : Dp (eL e he) (n + 1) := fun xs => by
  have : ∀ xs : List α, PyData.depthAll (xs.map e.p) ≤ n := by
    intro xs
    induction xs with
    | nil => exact Nat.zero_le _
    | cons x xs ih => rw [List.map_cons, PyData.depthAll]; exact Nat.max_le.mpr ⟨h x, ih⟩
  show PyData.depthAll (xs.map e.p) + 1 ≤ n + 1
  have := this xs
  omega
/-- a list of two, of unlike kinds -/
def eH {α β : Type} [DecidableEq α] [DecidableEq β] (e : Enc α) (f : Enc β) (he : ∀ x, (e.p x).depth ≤ 10) (hf : ∀ x, (f.p x).depth ≤ 10) : Enc (α × β) where
  d := fun x => .fz [e.d x.1, f.d x.2]
  p := fun x => .list [e.p x.1, f.p x.2]
  py := fun A x => .lst IsL.fz (.cons (e.py A _) (.cons (f.py A _) .nil))
  lay := fun x => by
    show PyData.canLayAll0 [e.p x.1, f.p x.2] = true
    rw [PyData.canLayAll0, PyData.canLayAll0, PyData.canLayAll0, e.lay, f.lay]
    rfl
  dep := fun x => by
    show PyData.depthAll [e.p x.1, f.p x.2] + 1 ≤ 20
    rw [PyData.depthAll, PyData.depthAll, PyData.depthAll]
    have := he x.1
    have := hf x.2
    omega
  eqv := fun x y => by
    show PyData.eqvAll [e.p x.1, f.p x.2] [e.p y.1, f.p y.2] = _
    rw [PyData.eqvAll, PyData.eqvAll, PyData.eqvAll, e.eqv, f.eqv, Bool.eq_iff_iff]
    simp [Prod.ext_iff]
/-! ### argument lists: no star -/
def isStar : Expr → Bool
  | .Starred _ _ => true
  | _ => false
theorem star_cons {e : Expr} {es : List Expr} {env : Env} (h : isStar e = false) : starEach (e :: es) env = (false, eval e env) :: starEach es env := by
  cases e <;> first | rfl | cases h
def intsOf : List Expr → Option (List Int)
  | [] => some []
  | .Constant (.int i) _ _ :: es => match intsOf es with
    | some ns => some (i :: ns)
    | none => none
  | _ :: _ => none
section
variable {X : Cx} {ρ : Ro} {A : AH} {e : Expr} {es : List Expr} {d : D} {ds : List D}
theorem avs_c (h : AV X e ρ A d) (hr : AVs X es ρ A ds) (hs : isStar e = false := by rfl) : AVs X (e :: es) ρ A (d :: ds) := avs_cons h hr (star_cons hs)
theorem avs_ints : ∀ {es : List Expr} {ns : List Int}, intsOf es = some ns → AVs X es ρ A (ns.map D.int)
  | [], ns, h => by
    cases h
    exact avs_nil
  | .Constant (.int i) j p :: es, ns, h => by
    unfold intsOf at h
    cases q : intsOf es with
    | none => rw [q] at h; cases h
    | some ms =>
      rw [q] at h
      cases h
      exact avs_c av_int (avs_ints q) rfl
end
section
variable {X : Cx} {W : WX} {ρ : Ro} {A A0 : AH} {e a b c : Expr} {es : List Expr} {pos p0 : Pos} {d x y v : D} {k : AK} {ds : List D} {sts rest : List Stmt} {E : AEnds}
variable {β γ : Type} {f : β → D} {g : γ → D} {xs ys : List β} {zs : List γ} {i : Int}
theorem av_ixD (d0 : β) (ha : AV X a ρ A x) (hl : IsL A x (xs.map f)) (hb : AV X b ρ A (.int i)) (h0 : 0 ≤ i) (h1 : i < xs.length) (hs : PlainIx b := by intro _ _; rfl) : AV X (.Subscript a b pos) ρ A (f (xs.getD i.toNat d0)) := av_ixL ha hb hl (atG d0 h0 h1) hs
theorem av_ixDN (d0 : β) {n : Nat} (ha : AV X a ρ A x) (hl : IsL A x (xs.map f)) (hb : AV X b ρ A (.int i)) (e : i = (n : Int)) (h1 : n < xs.length) (hs : PlainIx b := by intro _ _; rfl) : AV X (.Subscript a b pos) ρ A (f (xs.getD n d0)) := by
  subst e
  exact av_ixL ha hb hl (atG d0 (Int.natCast_nonneg n) (by omega)) hs
theorem av_ixDB (d0 : β) {n : Nat} (ha : AV X a ρ A x) (hl : IsL A x (xs.map f)) (hb : AV X b ρ A (.int i)) (e : i = -(n : Int)) (h0 : 0 < n) (h1 : n ≤ xs.length) (hs : PlainIx b := by intro _ _; rfl) : AV X (.Subscript a b pos) ρ A (f (xs.getD (xs.length - n) d0)) := by
  refine av_ixL ha hb hl ?_ hs
  unfold atI
  have e' : ixN (xs.map f).length i = some (xs.length - n) := by
    rw [List.length_map]
    unfold ixN
    rw [if_neg (by omega), if_pos (by omega)]
    congr 1
    omega
  rw [e']
  show (xs.map f)[xs.length - n]? = _
  rw [List.getElem?_map, List.getD_eq_getElem?_getD, List.getElem?_eq_getElem (show xs.length - n < xs.length by omega)]
  rfl
theorem ae_slF {lo hi : Option Expr} {lo' hi' : Option Int} {p2 : Pos} (hlo : ∀ A1, Ext A A1 → AO' X lo ρ A1 lo') (hhi : ∀ A1, Ext A A1 → AO' X hi ρ A1 hi') (h : AE X e ρ A fun d A1 => ∃ xs : List β, Ext A A1 ∧ IsL A1 d (xs.map f) ∧ k (.fz ((cutL xs lo' hi').map f)) A1) :
    AE X (.Subscript e (.Slice lo hi none p2) pos) ρ A k := AE.frz (ae_slL hlo hhi (h.mono fun d A1 ⟨xs, ex, hl, hk⟩ => ⟨_, ex, hl, fun q hq => fz_k hq (by rw [cutD_map]; exact hk)⟩))
theorem av_mulS {i j : Int} (ha : AV X a ρ A (.int i)) (hb : AV X b ρ A (.int j)) (hc : CMul i j) : AV X (.BinOp a .Mult b pos) ρ A (.int (i * j)) := av_opI (g := fun i j => i * j) op_mul ha hb hc
theorem rep_flat {β : Type} (z : β) : ∀ n : Nat, (List.replicate n [z]).flatten = List.replicate n z
  | 0 => rfl
  | n + 1 => by rw [List.replicate_succ, List.flatten_cons, rep_flat z n, List.replicate_succ]; rfl
theorem av_rep1 {z : β} {n : Int} {lpos : Pos} (ha : AV X a ρ A (f z)) (hb : ∀ A', Ext A A' → AV X b ρ A' (.int n)) (h0 : 0 ≤ n) (h1 : n ≤ 1000) (hs : isStar a = false := by rfl) : AV X (.BinOp (.List [a] lpos) .Mult b pos) ρ A (.fz ((List.replicate n.toNat z).map f)) := by
  have := av_rep (pos := pos) (f := f) (xs := [z]) (al_lst (pos := lpos) (avs_c ha avs_nil hs) (Nat.le_of_ble_eq_true rfl)) hb h0 h1 (by simp)
  rw [rep_flat] at this
  exact this
variable {tg : Expr} {kI : AH → (AH → Prop) → Nat → (Nat → D) → Prop}
theorem ai_T (d0 : β) (h : AV X a ρ A (.tup (xs.map f))) (q : kI A (fun _ => True) xs.length (fun i => f (xs.getD i d0))) : AI X tg a ρ A kI :=
  AI.to (ai_tup h ⟨fun _ => True, fun i => f (xs.getD i d0), fun i hi => getD_mapF d0 (by rw [List.length_map] at hi; exact hi), fun _ z => z, by rw [List.length_map]; exact q⟩)
theorem ai_revD (d0 : β) (hg : Gl X "reversed") (hm : X.mg "reversed" = none) (h : AV X a ρ A x) (hl : IsL A x (xs.map f)) (q : kI A (fun A' => IsL A' x (xs.map f)) xs.length (fun i => f (xs.getD (xs.length - 1 - i) d0)))
    (hs : starEach [a] X.env = [(false, eval a X.env)] := by rfl) : AI X tg (.Call (.Name "reversed" p0) [a] [] pos) ρ A kI :=
  AI.to (ai_rev hg hm (h.ae ⟨_, hl, _, fun i => f (xs.getD (xs.length - 1 - i) d0), fun i hi => by rw [List.length_map] at hi ⊢; exact getD_mapF d0 (by omega), fun _ z => z, by rw [List.length_map]; exact q⟩) hs)
theorem ai_enumD (d0 : β) {elts : List Expr} {kk : Nat} {tpos : Pos} (hg : Gl X "enumerate") (hm : X.mg "enumerate" = none) (h : AV X a ρ A x) (hl : IsL A x (xs.map f)) (q : kI A (fun A' => IsL A' x (xs.map f)) xs.length (fun i => .tup [.int (i : Nat), f (xs.getD i d0)]))
    (hs : starEach [a] X.env = [(false, eval a X.env)] := by rfl) : AI X (.Tuple elts kk tpos) (.Call (.Name "enumerate" p0) [a] [] pos) ρ A kI :=
  AI.to (ai_enum hg hm (h.ae ⟨_, hl, _, fun i => .tup [.int (i : Nat), f (xs.getD i d0)], fun i hi => by dsimp only; rw [getD_mapF d0 (by rw [List.length_map] at hi; exact hi)], fun _ z => z, by rw [List.length_map]; exact q⟩) hs)
theorem ai_zipD (d0 : β) (e0 : γ) {elts : List Expr} {kk : Nat} {tpos : Pos} (hg : Gl X "zip") (hm : X.mg "zip" = none) (h : AVs X [a, b] ρ A [x, y]) (hl : IsL A x (xs.map f)) (hl' : IsL A y (zs.map g)) (q : kI A (fun A' => IsL A' x (xs.map f) ∧ IsL A' y (zs.map g)) (min xs.length zs.length) (fun i => .tup [f (xs.getD i d0), g (zs.getD i e0)]))
    (hs : starEach [a, b] X.env = (false, eval a X.env) :: starEach [b] X.env := by rfl) (hpl : (backTo pos (starEach [b] X.env)).any (·.1) = false := by rfl) : AI X (.Tuple elts kk tpos) (.Call (.Name "zip" p0) [a, b] [] pos) ρ A kI :=
  AI.to (ai_zip hg hm (h.aes ⟨_, _, _, _, rfl, hl, hl', _, fun i => .tup [f (xs.getD i d0), g (zs.getD i e0)], fun i hi => by
    rw [List.length_map, List.length_map] at hi
    dsimp only
    rw [getD_mapF d0 (by omega), getD_mapF e0 (by omega)], fun _ z => z, by rw [List.length_map, List.length_map]; exact q⟩) hs hpl)
/-- while: a number falls -/
theorem a1_whileN {body : List Stmt} (hp : PassesOwn (model X.prog X.w) X.A X.env X.xe) (Pv : Nat → Ro → AH → Prop) (h0 : ∃ n, Pv n ρ A)
    (hs : ∀ n ρ A, Pv n ρ A → AET X c ρ A fun bb A1 => (bb = true → AS X W body ρ A1 { E with nx := fun ρ' A' => ∃ m, m < n ∧ Pv m ρ' A', ct := fun ρ' A' => ∃ m, m < n ∧ Pv m ρ' A', bk := E.nx }) ∧ (bb = false → E.nx ρ A1)) : A1 X W (.While c body [] pos) ρ A E := fun σ H s D q =>
  tm1_of (ps_while hp (pt_tm c) (pss_tm body)) (by
    obtain ⟨n0, h0⟩ := h0
    refine ⟨fun m σ' H' => ∃ ρ' A', TS H H' ∧ Sr X.K ρ' A' σ' H' ∧ Pv m ρ' A', ⟨_, ρ, A, TS.refl H, s, h0⟩, ?_⟩
    rintro m σ1 H1 ⟨ρ1, A1, t1, s1, p1⟩
    refine hs m ρ1 A1 p1 σ1 H1 s1 _ fun bb H2 A2 t2 l2 kd => ?_
    cases bb with
    | true =>
      refine iteT ⟨fun σ' H' => ∃ ρ' A', TS H H' ∧ Sr X.K ρ' A' σ' H' ∧ ∃ m', m' < m ∧ Pv m' ρ' A', ?_, ?_⟩
      · rintro σ' H' ⟨ρ', A', t', s', m', lt, p'⟩
        exact ⟨m', lt, ρ', A', t', s', p'⟩
      · have t12 := t1.trans t2
        refine kd.1 rfl σ1 H2 (s1.mono t2 l2) _ ⟨fun ρ' A' σ' H' t' s' p' => ⟨ρ', A', t12.trans t', s', p'⟩, fun _ _ _ _ t' => q.rt _ _ _ _ (t12.trans t'), fun _ _ _ _ t' => q.nx _ _ _ _ (t12.trans t'), fun ρ' A' σ' H' t' s' p' => ⟨ρ', A', t12.trans t', s', p'⟩, fun _ _ _ _ _ t' => q.xc _ _ _ _ _ (t12.trans t')⟩
    | false => exact iteF (q.nx ρ1 A2 σ1 H2 (t1.trans t2) (s1.mono t2 l2) (kd.2 rfl)))
theorem AS.ro {ρ' : Ro} (h : AS X W sts ρ' A E) (q : ρ = ρ' := by rfl) : AS X W sts ρ A E := q ▸ h
/-! ### == of data that may be written -/
section
variable {α : Type} [DecidableEq α] (e : Enc α) {u w : α} {lv : Nat} {d' : D}
theorem Enc.shp (x : α) : SeqAt.shaped (e.p x) = true := C7.shp (e.lay x) (Nat.le_trans (e.dep x) (by decide))
theorem at_eqW (hr : Room lv X.A) (ha : AV X a ρ A d) (hb : AV X b ρ A d') (h : Py A d (e.p u)) (h' : Py A d' (e.p w)) : AT X (.Compare a [.Eq] [b] pos) ρ A (decide (u = w)) := by
  rw [← e.eqv]
  exact AET.at' (aet_eqP hr (ha.ae (hb.ae ⟨_, _, h, h', e.shp u, e.shp w, rfl, Ext.refl _⟩)))
theorem at_neW (hr : Room lv X.A) (ha : AV X a ρ A d) (hb : AV X b ρ A d') (h : Py A d (e.p u)) (h' : Py A d' (e.p w)) : AT X (.Compare a [.NotEq] [b] pos) ρ A (!decide (u = w)) := by
  rw [← e.eqv]
  exact AET.at' (aet_neP hr (ha.ae (hb.ae ⟨_, _, h, h', e.shp u, e.shp w, rfl, Ext.refl _⟩)))
theorem av_eqW (hr : Room lv X.A) (ha : AV X a ρ A d) (hb : AV X b ρ A d') (h : Py A d (e.p u)) (h' : Py A d' (e.p w)) : AV X (.Compare a [.Eq] [b] pos) ρ A (.bl (decide (u = w))) := by
  rw [← e.eqv]
  exact av_eqP hr ha hb h h' (e.shp u) (e.shp w)
theorem av_neW (hr : Room lv X.A) (ha : AV X a ρ A d) (hb : AV X b ρ A d') (h : Py A d (e.p u)) (h' : Py A d' (e.p w)) : AV X (.Compare a [.NotEq] [b] pos) ρ A (.bl (!decide (u = w))) := by
  rw [← e.eqv]
  exact av_neP hr ha hb h h' (e.shp u) (e.shp w)
end
theorem fz_k2 {ds es : List D} {p q : Addr} (hp : A p = none) (hq : aupd A p (.lst ds) q = none) (h : k (.tup [.fz ds, .fz es]) A) : ∃ A0 v, Ext A0 (aupd (aupd A p (.lst ds)) q (.lst es)) ∧ Fr A0 (aupd (aupd A p (.lst ds)) q (.lst es)) (.tup [.ref p, .ref q]) v ∧ k v A0 := by
  have ne : q ≠ p := fun z => by rw [z, aupd_same] at hq; cases hq
  refine ⟨A, _, (Ext.new hp).trans (Ext.new hq), .tup (.cons (.lst hp ?_ (Frs.refl ds)) (.cons (.lst ?_ aupd_same (Frs.refl es)) .nil)), h⟩
  · rw [aupd_ne (fun z => ne z.symm), aupd_same]
  · rw [aupd_ne ne] at hq
    exact hq
/-! ### heaps with lists that are written -/
theorem aupd_other {p q : Addr} {o u o' : AO} (h : aupd A p o q = none) : aupd (aupd (aupd A p o) q u) p o' = aupd (aupd A p o') q u := by
  have ne : q ≠ p := fun z => by rw [z, aupd_same] at h; cases h
  funext b
  unfold aupd
  by_cases h1 : b = p
  · subst h1
    rw [if_pos rfl, if_neg (fun z => ne z.symm), if_pos rfl]
  · rw [if_neg h1]
    by_cases h2 : b = q
    · rw [if_pos h2, if_pos h2]
    · rw [if_neg h2, if_neg h2, if_neg h1, if_neg h1]
theorem aupd_none {p q : Addr} {o : AO} (u : AO) (h : aupd A p o q = none) : aupd A p u q = none := by
  have ne : q ≠ p := fun z => by rw [z, aupd_same] at h; cases h
  rw [aupd_ne ne] at h ⊢
  exact h
theorem aupd_get {p q : Addr} {o u : AO} (h : aupd A p o q = none) : aupd (aupd A p o) q u p = some o := by
  have ne : q ≠ p := fun z => by rw [z, aupd_same] at h; cases h
  rw [aupd_ne (fun z => ne z.symm), aupd_same]
theorem aupd_free {p q : Addr} {o : AO} (h : aupd A p o q = none) : A q = none := by
  have ne : q ≠ p := fun z => by rw [z, aupd_same] at h; cases h
  rw [aupd_ne ne] at h
  exact h
theorem getD_last {β : Type} {xs : List β} {z d0 : β} {n : Nat} (h : xs.length = n) : (xs ++ [z]).getD (n + [z].length - 1) d0 = z := by
  subst h
  rw [List.getD_eq_getElem?_getD]
  simp
theorem map_snoc {β : Type} (f : β → D) (xs : List β) (z : β) : xs.map f ++ [f z] = (xs ++ [z]).map f := by rw [List.map_append]; rfl
end
end C7
namespace C7
open PySem PySem.Spec PyProof.Rows L2
theorem rowsR_len (t : Rat) (row : List Pt) : (rowsR t row).length = row.length := by unfold rowsR; simp
theorem rowsR_get {t : Rat} {row : List Pt} {j : Nat} (h : j < row.length) : (rowsR t row).getD j [] = iterR t row j := by
  unfold rowsR
  rw [List.getD_eq_getElem?_getD, List.getElem?_map, List.getElem?_range h]
  rfl
theorem rowsR_last {t : Rat} {row : List Pt} (h : 0 < row.length) : (rowsR t row).getD ((rowsR t row).length - 1) [] = iterR t row (row.length - 1) := by
  rw [rowsR_len]
  exact rowsR_get (by omega)
/-- the first points of rows; the last points, from the last row back -/
def firstsR (rs : List (List Pt)) : List Pt := (List.range rs.length).map fun i => (rs.getD i []).getD 0 (0, 0)
def lastsR (rs : List (List Pt)) : List Pt := (List.range rs.length).map fun i => (rs.getD (rs.length - 1 - i) []).getD ((rs.getD (rs.length - 1 - i) []).length - 1) (0, 0)
/-! ### going between, on sequences: polar points -/
def nx (t : Rat) (x : Nat → Rat) : Nat → Rat := fun i => x i + t * (x (i + 1) - x i)
def ops : List Rat → (Nat → Rat) → Nat → Rat
  | [], x => x
  | t :: ts, x => ops ts (nx t x)
theorem nx_comm (s t : Rat) (x : Nat → Rat) : nx s (nx t x) = nx t (nx s x) := by funext i; unfold nx; grind
theorem nx_0 (x : Nat → Rat) : nx 0 x = x := by funext i; unfold nx; grind
theorem nx_1 (x : Nat → Rat) : nx 1 x = fun i => x (i + 1) := by funext i; unfold nx; grind
theorem nx_aff (a b u : Rat) (x : Nat → Rat) : nx (a + u * (b - a)) x = fun i => nx a x i + u * (nx b x i - nx a x i) := by funext i; unfold nx; grind
theorem nx_lin (t u : Rat) (x y : Nat → Rat) : nx t (fun i => x i + u * (y i - x i)) = fun i => nx t x i + u * (nx t y i - nx t x i) := by funext i; unfold nx; grind
theorem ops_nx (ts : List Rat) : ∀ (t : Rat) (x : Nat → Rat), ops ts (nx t x) = nx t (ops ts x) := by
  induction ts with
  | nil => intro t x; rfl
  | cons a ts ih => intro t x; show ops ts (nx a (nx t x)) = nx t (ops ts (nx a x)); rw [nx_comm, ih]
theorem ops_app (ts us : List Rat) : ∀ x : Nat → Rat, ops (ts ++ us) x = ops us (ops ts x) := by
  induction ts with
  | nil => intro x; rfl
  | cons a ts ih => intro x; show ops (ts ++ us) (nx a x) = ops us (ops ts (nx a x)); rw [ih]
theorem ops_comm (ts us : List Rat) : ∀ x : Nat → Rat, ops ts (ops us x) = ops us (ops ts x) := by
  induction us with
  | nil => intro x; rfl
  | cons a us ih => intro x; show ops ts (ops us (nx a x)) = ops us (nx a (ops ts x)); rw [ih, ops_nx]
theorem ops_perm {ts us : List Rat} (h : ts.Perm us) : ∀ x : Nat → Rat, ops ts x = ops us x := by
  induction h with
  | nil => intro x; rfl
  | cons a _ ih => intro x; exact ih (nx a x)
  | swap a b l => intro x; show ops l (nx a (nx b x)) = ops l (nx b (nx a x)); rw [nx_comm]
  | trans _ _ ih1 ih2 => intro x; exact (ih1 x).trans (ih2 x)
theorem ops_loc (ts : List Rat) : ∀ (x y : Nat → Rat) (k : Nat), (∀ i, i ≤ ts.length → x (k + i) = y (k + i)) → ops ts x k = ops ts y k := by
  induction ts with
  | nil => intro x y k h; exact h 0 (Nat.le_refl _)
  | cons a ts ih =>
    intro x y k h
    refine ih _ _ k fun i hi => ?_
    unfold nx
    have h1 := h i (by rw [List.length_cons]; omega)
    have h2 := h (i + 1) (by rw [List.length_cons]; omega)
    rw [h1, show k + i + 1 = k + (i + 1) by omega, h2]
theorem ops_lin (ts : List Rat) : ∀ (u : Rat) (x y : Nat → Rat), ops ts (fun i => x i + u * (y i - x i)) = fun i => ops ts x i + u * (ops ts y i - ops ts x i) := by
  induction ts with
  | nil => intro u x y; rfl
  | cons a ts ih => intro u x y; show ops ts (nx a _) = _; rw [nx_lin, ih]; rfl
theorem ops_rep0 (m : Nat) : ∀ x : Nat → Rat, ops (List.replicate m 0) x = x := by
  induction m with
  | zero => intro x; rfl
  | succ m ih => intro x; show ops (List.replicate m 0) (nx 0 x) = x; rw [nx_0, ih]
theorem ops_rep1 (m : Nat) : ∀ (x : Nat → Rat) (i : Nat), ops (List.replicate m 1) x i = x (i + m) := by
  induction m with
  | zero => intro x i; rfl
  | succ m ih => intro x i; show ops (List.replicate m 1) (nx 1 x) i = _; rw [nx_1, ih]; exact congrArg x (by omega)
theorem cas_ops (t : Rat) (x : Nat → Rat) : ∀ j, cas t x j = ops (List.replicate j t) x := by
  intro j
  induction j with
  | zero => rfl
  | succ j ih =>
    show (fun i => cas t x j i + t * (cas t x j (i + 1) - cas t x j i)) = ops (List.replicate j t) (nx t x)
    rw [ops_nx, ← ih]
    rfl
def px (row : List Pt) (k : Nat) : Rat := (gp row k).1
def py (row : List Pt) (k : Nat) : Rat := (gp row k).2
/-- rows at one share after the other -/
def foldR (ts : List Rat) (row : List Pt) : List Pt := ts.foldl (fun r t => nextR t r) row
theorem foldR_len (ts : List Rat) : ∀ row : List Pt, (foldR ts row).length = row.length - ts.length := by
  induction ts with
  | nil => intro row; rfl
  | cons a ts ih => intro row; show (foldR ts (nextR a row)).length = _; rw [ih, nextR_len, List.length_cons]; omega
theorem px_next {t : Rat} {row : List Pt} {k : Nat} (h : k + 1 < row.length) : px (nextR t row) k = nx t (px row) k ∧ py (nextR t row) k = nx t (py row) k := by
  unfold px py
  rw [nextR_gp (by omega)]
  exact ⟨rfl, rfl⟩
theorem foldR_ops (ts : List Rat) : ∀ (row : List Pt) (i : Nat), i + ts.length < row.length → px (foldR ts row) i = ops ts (px row) i ∧ py (foldR ts row) i = ops ts (py row) i := by
  induction ts with
  | nil => intro row i h; exact ⟨rfl, rfl⟩
  | cons a ts ih =>
    intro row i h
    rw [List.length_cons] at h
    have := ih (nextR a row) i (by rw [nextR_len]; omega)
    show px (foldR ts (nextR a row)) i = ops ts (nx a (px row)) i ∧ py (foldR ts (nextR a row)) i = ops ts (nx a (py row)) i
    rw [this.1, this.2]
    exact ⟨ops_loc ts _ _ i fun j hj => (px_next (by omega)).1, ops_loc ts _ _ i fun j hj => (px_next (by omega)).2⟩
def polarR (ts : List Rat) (row : List Pt) : Pt := gp (foldR ts row) 0
theorem polarR_eq {ts : List Rat} {row : List Pt} (h : ts.length < row.length) : polarR ts row = (ops ts (px row) 0, ops ts (py row) 0) := by
  have := foldR_ops ts row 0 (by omega)
  exact Prod.ext this.1 this.2
theorem polarR_perm {ts us : List Rat} {row : List Pt} (p : ts.Perm us) (h : ts.length < row.length) : polarR ts row = polarR us row := by
  rw [polarR_eq h, polarR_eq (by rw [← p.length_eq]; exact h), ops_perm p, ops_perm p]
theorem pointR_polar {t : Rat} {row : List Pt} (h : 0 < row.length) : pointR t row = polarR (List.replicate (row.length - 1) t) row := by
  rw [polarR_eq (by simp; omega)]
  have e := iterR_cas t row (row.length - 1) 0 (by omega)
  rw [cas_ops, cas_ops] at e
  exact Prod.ext e.1 e.2
/-- one share between two -/
theorem polarR_mid {a b u : Rat} {ts us : List Rat} {row : List Pt} (h : ts.length + us.length + 1 < row.length + 0) : polarR (ts ++ (a + u * (b - a)) :: us) row = onWay (polarR (ts ++ a :: us) row) (polarR (ts ++ b :: us) row) u := by
  have hl : ∀ c : Rat, (ts ++ c :: us).length < row.length := fun c => by rw [List.length_append, List.length_cons]; omega
  rw [polarR_eq (hl _), polarR_eq (hl _), polarR_eq (hl _)]
  have key : ∀ x : Nat → Rat, ops (ts ++ (a + u * (b - a)) :: us) x 0 = ops (ts ++ a :: us) x 0 + u * (ops (ts ++ b :: us) x 0 - ops (ts ++ a :: us) x 0) := by
    intro x
    rw [ops_app, ops_app, ops_app]
    show ops us (nx (a + u * (b - a)) (ops ts x)) 0 = ops us (nx a (ops ts x)) 0 + u * (ops us (nx b (ops ts x)) 0 - ops us (nx a (ops ts x)) 0)
    rw [nx_aff, ops_lin]
  unfold onWay
  rw [key, key]
/-! ### stretches -/
def Yy (s t : Rat) (n : Nat) (x : Nat → Rat) (k : Nat) : Rat := ops (List.replicate (n - k) s ++ List.replicate k t) x 0
theorem nx_Yy {s t u : Rat} {n : Nat} {x : Nat → Rat} {k : Nat} (h : k + 1 ≤ n) : nx u (Yy s t n x) k = Yy s t (n - 1) (nx (s + u * (t - s)) x) k := by
  unfold nx Yy
  rw [show n - k = (n - 1 - k) + 1 by omega, show n - (k + 1) = n - 1 - k by omega]
  generalize n - 1 - k = m
  have e1 : ops (List.replicate (m + 1) s ++ List.replicate k t) x = ops (List.replicate m s ++ List.replicate k t) (nx s x) := rfl
  have e2 : ops (List.replicate m s ++ List.replicate (k + 1) t) x = ops (List.replicate m s ++ List.replicate k t) (nx t x) := by
    rw [List.replicate_succ', ← List.append_assoc, ops_app, ops_nx]
    rfl
  rw [e1, e2]
  show _ = ops (List.replicate m s ++ List.replicate k t) (nx (s + u * (t - s)) x) 0
  rw [nx_aff, ops_lin]
theorem ops_Yy {s t : Rat} (us : List Rat) : ∀ (n : Nat) (x : Nat → Rat) (k : Nat), k + us.length ≤ n → ops us (Yy s t n x) k = Yy s t (n - us.length) (ops (us.map fun u => s + u * (t - s)) x) k := by
  induction us with
  | nil => intro n x k h; rfl
  | cons u us ih =>
    intro n x k h
    rw [List.length_cons] at h ⊢
    show ops us (nx u (Yy s t n x)) k = _
    rw [ops_loc us _ (Yy s t (n - 1) (nx (s + u * (t - s)) x)) k fun i hi => nx_Yy (by omega), ih (n - 1) _ k (by omega), show n - 1 - us.length = n - (us.length + 1) by omega]
    rfl
def stretchR (s t : Rat) (row : List Pt) : List Pt := (List.range row.length).map fun k => polarR (List.replicate (row.length - 1 - k) s ++ List.replicate k t) row
theorem stretchR_len (s t : Rat) (row : List Pt) : (stretchR s t row).length = row.length := by unfold stretchR; simp
theorem stretchR_gp {s t : Rat} {row : List Pt} {k : Nat} (h : k < row.length) : gp (stretchR s t row) k = polarR (List.replicate (row.length - 1 - k) s ++ List.replicate k t) row := gp_map h
theorem stretchR_px {s t : Rat} {row : List Pt} {k : Nat} (h : k < row.length) : px (stretchR s t row) k = Yy s t (row.length - 1) (px row) k ∧ py (stretchR s t row) k = Yy s t (row.length - 1) (py row) k := by
  unfold px py
  rw [stretchR_gp h, polarR_eq (by simp; omega)]
  exact ⟨rfl, rfl⟩
theorem polar_stretch {s t : Rat} {us : List Rat} {row : List Pt} (h : us.length + 1 = row.length) : polarR us (stretchR s t row) = polarR (us.map fun u => s + u * (t - s)) row := by
  rw [polarR_eq (by rw [stretchR_len]; omega), polarR_eq (by rw [List.length_map]; omega)]
  have h1 : ops us (px (stretchR s t row)) 0 = ops us (Yy s t (row.length - 1) (px row)) 0 := ops_loc us _ _ 0 fun i hi => (stretchR_px (by omega)).1
  have h2 : ops us (py (stretchR s t row)) 0 = ops us (Yy s t (row.length - 1) (py row)) 0 := ops_loc us _ _ 0 fun i hi => (stretchR_px (by omega)).2
  rw [h1, h2, ops_Yy us _ _ 0 (by omega), ops_Yy us _ _ 0 (by omega), show row.length - 1 - us.length = 0 by omega]
  rfl
theorem row_ext {a b : List Pt} (h : a.length = b.length) (e : ∀ k, k < a.length → gp a k = gp b k) : a = b := by
  apply List.ext_getElem?
  intro i
  by_cases hi : i < a.length
  · have := e i hi
    unfold gp at this
    rw [List.getD_eq_getElem?_getD, List.getD_eq_getElem?_getD, List.getElem?_eq_getElem hi, List.getElem?_eq_getElem (by omega)] at this
    rw [List.getElem?_eq_getElem hi, List.getElem?_eq_getElem (by omega)]
    exact congrArg some this
  · rw [List.getElem?_eq_none (by omega), List.getElem?_eq_none (by omega)]
theorem stretch_stretch (s t u v : Rat) (row : List Pt) : stretchR u v (stretchR s t row) = stretchR (s + u * (t - s)) (s + v * (t - s)) row := by
  refine row_ext (by rw [stretchR_len, stretchR_len, stretchR_len]) fun k hk => ?_
  rw [stretchR_len, stretchR_len] at hk
  rw [stretchR_gp (by rw [stretchR_len]; exact hk), stretchR_gp hk, stretchR_len, polar_stretch (by simp; omega), List.map_append, List.map_replicate, List.map_replicate]
theorem point_stretch {s t u : Rat} {row : List Pt} (h : 0 < row.length) : pointR u (stretchR s t row) = pointR (s + u * (t - s)) row := by
  rw [pointR_polar (by rw [stretchR_len]; exact h), stretchR_len, polar_stretch (by simp; omega), List.map_replicate, pointR_polar h]
theorem stretch_01 (row : List Pt) : stretchR 0 1 row = row := by
  refine row_ext (stretchR_len _ _ _) fun k hk => ?_
  rw [stretchR_len] at hk
  rw [stretchR_gp hk, polarR_eq (by simp; omega), ops_app, ops_app, ops_rep0, ops_rep0, ops_rep1, ops_rep1, Nat.zero_add]
  rfl
theorem gp_rev {row : List Pt} {k : Nat} (h : k < row.length) : gp row.reverse k = gp row (row.length - 1 - k) := by
  unfold gp
  rw [List.getD_eq_getElem?_getD, List.getD_eq_getElem?_getD, List.getElem?_reverse h]
theorem stretch_10 (row : List Pt) : stretchR 1 0 row = row.reverse := by
  refine row_ext (by rw [stretchR_len, List.length_reverse]) fun k hk => ?_
  rw [stretchR_len] at hk
  rw [stretchR_gp hk, polarR_eq (by simp; omega), ops_app, ops_app, ops_rep0, ops_rep0, ops_rep1, ops_rep1, Nat.zero_add, gp_rev hk]
  rfl
theorem firsts_stretch (t : Rat) (row : List Pt) : firstsR (rowsR t row) = stretchR 0 t row := by
  have hl : (firstsR (rowsR t row)).length = row.length := by unfold firstsR; simp [rowsR_len]
  refine row_ext (by rw [hl, stretchR_len]) fun k hk => ?_
  rw [hl] at hk
  have e1 : gp (firstsR (rowsR t row)) k = gp (iterR t row k) 0 := by
    unfold firstsR
    rw [gp_map (by rw [rowsR_len]; exact hk), rowsR_get hk]
    rfl
  have e := iterR_cas t row k 0 (by omega)
  rw [cas_ops, cas_ops] at e
  rw [e1, stretchR_gp hk, polarR_eq (by simp; omega), ops_app, ops_app, ops_rep0, ops_rep0]
  exact Prod.ext e.1 e.2
theorem lasts_stretch (t : Rat) (row : List Pt) : lastsR (rowsR t row) = stretchR t 1 row := by
  have hl : (lastsR (rowsR t row)).length = row.length := by unfold lastsR; simp [rowsR_len]
  refine row_ext (by rw [hl, stretchR_len]) fun k hk => ?_
  rw [hl] at hk
  have e1 : gp (lastsR (rowsR t row)) k = gp (iterR t row (row.length - 1 - k)) k := by
    unfold lastsR
    rw [gp_map (by rw [rowsR_len]; exact hk), rowsR_len, rowsR_get (by omega), iterR_len, show row.length - (row.length - 1 - k) - 1 = k by omega]
    rfl
  have e := iterR_cas t row (row.length - 1 - k) k (by omega)
  rw [cas_ops, cas_ops] at e
  rw [e1, stretchR_gp hk, polarR_eq (by simp; omega), ops_app, ops_app, ops_rep1, ops_rep1, Nat.zero_add]
  exact Prod.ext e.1 e.2
/-! ### sizes of rows -/
def Rw (m : Nat) (row : List Pt) : Prop := ∃ B : Int, B ≠ 0 ∧ B.natAbs < 2 ^ m ∧ ∀ p ∈ row, OvP B m p
theorem Rw.up {m n : Nat} {row : List Pt} (h : Rw m row) (e : m ≤ n) : Rw n row := by
  obtain ⟨B, h0, h1, h2⟩ := h
  exact ⟨B, h0, bt_le h1 e, fun p hp => (h2 p hp).up e⟩
theorem Rw.of {B : Int} {b m : Nat} {row : List Pt} (h0 : 0 < B) (h1 : B < 2 ^ b) (hb : b ≤ m) (h : ∀ p ∈ row, OvP B m p) : Rw m row :=
  ⟨B, by omega, bt_le (bt_small b (by have : (0 : Int) < 2 ^ b := Int.pow_pos (by decide); omega) h1) hb, h⟩
theorem Rw.sz {m : Nat} {row : List Pt} (h : Rw m row) : ∀ p ∈ row, SzP m p := by
  obtain ⟨B, h0, h1, h2⟩ := h
  exact fun p hp => ovp_sz h0 h1 (h2 p hp)
theorem Rw.next {m n : Nat} {row : List Pt} {t : Rat} (h : Rw m row) (ht : Sz n t) : Rw (m + n + 2) (nextR t row) := by
  obtain ⟨B, h0, h1, h2⟩ := h
  refine ⟨B * (t.den : Int), Int.mul_ne_zero h0 (by have := den_pos t; omega), bt_le (bt_mul h1 ht.den) (by omega), fun p hp => ?_⟩
  unfold nextR at hp
  rw [List.mem_map] at hp
  obtain ⟨k, hk, rfl⟩ := hp
  rw [List.mem_range] at hk
  exact ovp_on h0 (h2 _ (gp_mem (by omega))) (h2 _ (gp_mem (by omega))) ht
theorem Rw.iter {m n : Nat} {row : List Pt} {t : Rat} (h : Rw m row) (ht : Sz n t) : ∀ j, Rw (m + j * (n + 2)) (iterR t row j) := by
  intro j
  induction j with
  | zero => exact h.up (by omega)
  | succ j ih => exact (ih.next ht).up (by rw [Nat.succ_mul]; omega)
theorem Rw.fold {n : Nat} (ts : List Rat) : ∀ {m : Nat} {row : List Pt}, Rw m row → (∀ t ∈ ts, Sz n t) → Rw (m + ts.length * (n + 2)) (foldR ts row) := by
  induction ts with
  | nil => intro m row h _; exact h.up (by simp)
  | cons a ts ih =>
    intro m row h hz
    exact (ih (h.next (hz a (by simp))) fun t ht => hz t (by simp [ht])).up (by rw [List.length_cons, Nat.succ_mul]; omega)
/-- what going on by rows asks -/
theorem Rw.rows {m n M l : Nat} {row : List Pt} {t : Rat} (h : Rw m row) (ht : Sz n t) (hl : row.length ≤ l + 1) (hM : m + l * (n + 2) ≤ M) : ∀ j, j < row.length → ∀ p ∈ iterR t row j, SzP M p := fun j hj p hp =>
  ((h.iter ht j).up (Nat.le_trans (by have : j * (n + 2) ≤ l * (n + 2) := Nat.mul_le_mul_right _ (by omega); omega) hM)).sz p hp
theorem foldR_app' (ts us : List Rat) (row : List Pt) : foldR (ts ++ us) row = foldR us (foldR ts row) := List.foldl_append
theorem Rw.polar {m n M l : Nat} {row : List Pt} {ts : List Rat} (h : Rw m row) (hz : ∀ t ∈ ts, Sz n t) (hl : ts.length ≤ l) (hM : m + l * (n + 2) ≤ M) : ∀ j, ∀ p ∈ foldR (ts.take j) row, SzP M p := fun j p hp =>
  ((h.fold (ts.take j) fun t ht => hz t (List.mem_of_mem_take ht)).up (Nat.le_trans (by
    have h1 : (ts.take j).length ≤ l := by rw [List.length_take]; omega
    have : (ts.take j).length * (n + 2) ≤ l * (n + 2) := Nat.mul_le_mul_right _ h1
    omega) hM)).sz p hp
theorem Rw.polar1 {m n M l : Nat} {row : List Pt} {ts : List Rat} (h : Rw m row) (hz : ∀ t ∈ ts, Sz n t) (hl : ts.length ≤ l) (hl' : ts.length < row.length) (hM : m + l * (n + 2) ≤ M) : SzP M (polarR ts row) := by
  have := h.polar hz hl hM ts.length (polarR ts row)
  rw [List.take_length] at this
  exact this (gp_mem (by rw [foldR_len]; omega))
theorem foldR_take {ts : List Rat} {row : List Pt} {i : Nat} (h : i < ts.length) : nextR (ts.getD i 0) (foldR (ts.take i) row) = foldR (ts.take (i + 1)) row := by
  rw [List.take_succ, List.getElem?_eq_getElem h, foldR_app', List.getD_eq_getElem?_getD, List.getElem?_eq_getElem h]
  rfl
theorem Rw.tail {m : Nat} {row row' : List Pt} (h : Rw m row) (hs : ∀ p ∈ row', p ∈ row) : Rw m row' := by
  obtain ⟨B, h0, h1, h2⟩ := h
  exact ⟨B, h0, h1, fun p hp => h2 p (hs p hp)⟩
theorem Ov.lift {B c : Int} {m b : Nat} {q : Rat} (h : Ov B m q) (hc : c ≠ 0) (hb : c.natAbs < 2 ^ b) : Ov (B * c) (m + b) q := by
  obtain ⟨N, e, hN⟩ := h
  refine ⟨N * c, ?_, bt_mul hN hb⟩
  have c1 : ((N * c : Int) : Rat) = (N : Rat) * c := by push_cast; rfl
  have c2 : ((B * c : Int) : Rat) = (B : Rat) * c := by push_cast; rfl
  have hc' : (c : Rat) ≠ 0 := fun z => hc (by exact_mod_cast z)
  rw [e, c1, c2]
  grind
theorem OvP.lift {B c : Int} {m b : Nat} {q : Pt} (h : OvP B m q) (hc : c ≠ 0) (hb : c.natAbs < 2 ^ b) : OvP (B * c) (m + b) q := ⟨h.1.lift hc hb, h.2.lift hc hb⟩
def dens : List Rat → Int
  | [] => 1
  | t :: ts => (t.den : Int) * dens ts
theorem dens_ne : ∀ ts : List Rat, dens ts ≠ 0
  | [] => by decide
  | t :: ts => Int.mul_ne_zero (by have := den_pos t; omega) (dens_ne ts)
theorem dens_app : ∀ ts us : List Rat, dens (ts ++ us) = dens ts * dens us
  | [], us => by show _ = 1 * _; rw [Int.one_mul]; rfl
  | t :: ts, us => by show (t.den : Int) * dens (ts ++ us) = (t.den : Int) * dens ts * dens us; rw [dens_app ts us, Int.mul_assoc]
theorem dens_bt {n : Nat} : ∀ ts : List Rat, (∀ t ∈ ts, Sz n t) → (dens ts).natAbs < 2 ^ (ts.length * n + 1)
  | [], _ => by show (1 : Int).natAbs < 2 ^ (0 * n + 1); rw [Nat.zero_mul]; decide
  | t :: ts, h => by
    show ((t.den : Int) * dens ts).natAbs < _
    refine bt_le (bt_mul (h t (by simp)).den (dens_bt ts fun u hu => h u (by simp [hu]))) ?_
    rw [List.length_cons, Nat.succ_mul]
    omega
theorem foldR_ov {n : Nat} (ts : List Rat) : ∀ {m : Nat} {B : Int} {row : List Pt}, B ≠ 0 → (∀ p ∈ row, OvP B m p) → (∀ t ∈ ts, Sz n t) → ∀ p ∈ foldR ts row, OvP (B * dens ts) (m + ts.length * (n + 2)) p := by
  induction ts with
  | nil => intro m B row h0 h _ p hp; exact ((show B * dens [] = B from Int.mul_one B) ▸ h p hp).up (by simp)
  | cons a ts ih =>
    intro m B row h0 h hz p hp
    have e : B * dens (a :: ts) = (B * (a.den : Int)) * dens ts := (Int.mul_assoc _ _ _).symm
    rw [e]
    refine (ih (m := m + n + 2) (Int.mul_ne_zero h0 (by have := den_pos a; omega)) (fun q hq => ?_) (fun t ht => hz t (by simp [ht])) p hp).up (by rw [List.length_cons, Nat.succ_mul]; omega)
    unfold nextR at hq
    rw [List.mem_map] at hq
    obtain ⟨k, hk, rfl⟩ := hq
    rw [List.mem_range] at hk
    exact ovp_on h0 (h _ (gp_mem (by omega))) (h _ (gp_mem (by omega))) (hz a (by simp))
theorem sz_rep {n a : Nat} {s : Rat} (h : Sz n s) : ∀ u ∈ List.replicate a s, Sz n u := fun u hu => by rw [(List.mem_replicate.mp hu).2]; exact h
theorem sz_rep2 {n a b : Nat} {s t : Rat} (hs : Sz n s) (ht : Sz n t) : ∀ u ∈ List.replicate a s ++ List.replicate b t, Sz n u := fun u hu => by
  rcases List.mem_append.mp hu with h | h
  · exact sz_rep hs u h
  · exact sz_rep ht u h
theorem foldR_app (ts us : List Rat) (row : List Pt) : foldR (ts ++ us) row = foldR us (foldR ts row) := List.foldl_append
theorem Rw.stretch {m n n' l : Nat} {row : List Pt} {s t : Rat} (h : Rw m row) (hs : Sz n s) (ht : Sz n' t) (hl0 : 0 < row.length) (hl : row.length ≤ l + 1) : Rw (m + l * (n + n' + 2) + 2) (stretchR s t row) := by
  obtain ⟨B, h0, h1, h2⟩ := h
  have hN : row.length - 1 ≤ l := by omega
  have key : ∀ a b : Nat, a + b = row.length - 1 → OvP (B * (dens (List.replicate (row.length - 1) s) * dens (List.replicate (row.length - 1) t))) (m + l * (n + n' + 2) + 2) (polarR (List.replicate a s ++ List.replicate b t) row) := by
    intro a b hab
    have g1 := foldR_ov (n := n) (List.replicate a s) h0 h2 (sz_rep hs)
    have g2 := foldR_ov (n := n') (List.replicate b t) (Int.mul_ne_zero h0 (dens_ne _)) g1 (sz_rep ht) (polarR (List.replicate a s ++ List.replicate b t) row) (by
      have : polarR (List.replicate a s ++ List.replicate b t) row = gp (foldR (List.replicate b t) (foldR (List.replicate a s) row)) 0 := by unfold polarR; rw [foldR_app]
      rw [this]
      exact gp_mem (by rw [foldR_len, foldR_len]; simp; omega))
    have g3 := (g2.lift (dens_ne _) (dens_bt (List.replicate b s) (sz_rep hs))).lift (dens_ne _) (dens_bt (List.replicate a t) (sz_rep ht))
    have e : B * (dens (List.replicate (row.length - 1) s) * dens (List.replicate (row.length - 1) t)) = B * dens (List.replicate a s) * dens (List.replicate b t) * dens (List.replicate b s) * dens (List.replicate a t) := by
      have r1 : dens (List.replicate (row.length - 1) s) = dens (List.replicate a s) * dens (List.replicate b s) := by rw [← dens_app, List.replicate_append_replicate, hab]
      have r2 : dens (List.replicate (row.length - 1) t) = dens (List.replicate b t) * dens (List.replicate a t) := by rw [← dens_app, List.replicate_append_replicate, Nat.add_comm, hab]
      rw [r1, r2]
      grind
    rw [e]
    refine g3.up ?_
    simp only [List.length_replicate]
    have e1 : (a + b) * (n + n' + 2) ≤ l * (n + n' + 2) := Nat.mul_le_mul_right _ (by omega)
    have e2 : (a + b) * (n + n' + 2) = a * (n + 2) + b * (n' + 2) + b * n + a * n' := by grind
    omega
  refine ⟨B * (dens (List.replicate (row.length - 1) s) * dens (List.replicate (row.length - 1) t)), Int.mul_ne_zero h0 (Int.mul_ne_zero (dens_ne _) (dens_ne _)), ?_, fun p hp => ?_⟩
  · refine bt_le (bt_mul h1 (bt_mul (dens_bt _ (sz_rep hs)) (dens_bt _ (sz_rep ht)))) ?_
    simp only [List.length_replicate]
    have e1 : (row.length - 1) * n ≤ l * n := Nat.mul_le_mul_right _ hN
    have e3 : (row.length - 1) * n' ≤ l * n' := Nat.mul_le_mul_right _ hN
    have e2 : l * (n + n' + 2) = l * n + l * n' + l * 2 := by rw [Nat.mul_add, Nat.mul_add]
    omega
  · unfold stretchR at hp
    rw [List.mem_map] at hp
    obtain ⟨k, hk, rfl⟩ := hp
    rw [List.mem_range] at hk
    exact key _ _ (by omega)
theorem sz_mid2 {m n : Nat} {t u : Rat} (ht : Sz m t) (hu : Sz n u) : Sz (m + n + 2) (t + u * (1 - t)) := by
  have e := between_eq t 1 u
  refine sz_div (N := t.num * ((1 : Rat).den : Int) * (u.den : Int) + u.num * ((1 : Rat).num * (t.den : Int) - t.num * ((1 : Rat).den : Int))) (D := (t.den : Int) * ((1 : Rat).den : Int) * (u.den : Int)) ?_ e.symm ?_ ?_
  · have := den_pos t; have := den_pos u
    exact Int.mul_ne_zero (Int.mul_ne_zero (by omega) (by decide)) (by omega)
  · rw [show ((1 : Rat).den : Int) = 1 from rfl, show (1 : Rat).num = 1 from rfl, Int.mul_one, Int.one_mul]
    exact bt_le (bt_add (bt_mul ht.num hu.den) (bt_mul hu.num (bt_sub ht.den ht.num))) (by omega)
  · rw [show ((1 : Rat).den : Int) = 1 from rfl, Int.mul_one]
    exact bt_le (bt_mul ht.den hu.den) (by omega)
theorem sz_mid {m n : Nat} {p q t : Rat} (hp : Sz m p) (hq : Sz m q) (ht : Sz n t) : Sz (2 * m + n + 2) (p + t * (q - p)) := by
  have e := between_eq p q t
  refine sz_div (N := p.num * (q.den : Int) * (t.den : Int) + t.num * (q.num * (p.den : Int) - p.num * (q.den : Int))) (D := (p.den : Int) * (q.den : Int) * (t.den : Int)) ?_ e.symm ?_ ?_
  · have := den_pos p; have := den_pos q; have := den_pos t
    exact Int.mul_ne_zero (Int.mul_ne_zero (by omega) (by omega)) (by omega)
  · exact bt_le (bt_add (bt_mul (bt_mul hp.num hq.den) ht.den) (bt_mul ht.num (bt_sub (bt_mul hq.num hp.den) (bt_mul hp.num hq.den)))) (by omega)
  · exact bt_le (bt_mul (bt_mul hp.den hq.den) ht.den) (by omega)
theorem at2n {p : Pt} {i : Nat} (h : i < 2) : atI [sh p.1, sh p.2] (i : Int) = some (sh (sel p i)) := by
  match i, h with
  | 0, _ => rfl
  | 1, _ => rfl
/-- all but one are smaller -/
theorem Rw.fold2 {n n' : Nat} (ts : List Rat) : ∀ {m : Nat} {row : List Pt} (c : Nat), Rw m row → (∀ t ∈ ts, Sz n' t) → ts.countP (fun t => decide ¬ (t.num.natAbs < 2 ^ n ∧ t.den < 2 ^ n)) ≤ c → n ≤ n' → Rw (m + ts.length * (n + 2) + c * (n' - n)) (foldR ts row) := by
  induction ts with
  | nil => intro m row c h _ _ _; exact h.up (by simp)
  | cons a ts ih =>
    intro m row c h hz hc hn
    rw [List.countP_cons] at hc
    by_cases ha : a.num.natAbs < 2 ^ n ∧ a.den < 2 ^ n
    · rw [if_neg (by simp [ha])] at hc
      exact (ih c (h.next ⟨ha.1, ha.2⟩) (fun t ht => hz t (by simp [ht])) (by omega) hn).up (by rw [List.length_cons, Nat.succ_mul]; omega)
    · rw [if_pos (decide_eq_true ha)] at hc
      obtain ⟨c', rfl⟩ : ∃ c', c = c' + 1 := ⟨c - 1, by omega⟩
      exact (ih c' (h.next (hz a (by simp))) (fun t ht => hz t (by simp [ht])) (by omega) hn).up (by rw [List.length_cons, Nat.succ_mul, Nat.succ_mul]; omega)
theorem countP_set {α : Type} {P : α → Bool} {ts : List α} {i : Nat} {z : α} (h : ∀ t ∈ ts, P t = false) : (ts.set i z).countP P ≤ 1 := by
  induction ts generalizing i with
  | nil => simp
  | cons a ts ih =>
    cases i with
    | zero =>
      rw [List.set_cons_zero, List.countP_cons]
      have : ts.countP P = 0 := List.countP_eq_zero.mpr fun t ht => by rw [h t (by simp [ht])]; simp
      rw [this]
      split <;> omega
    | succ i =>
      rw [List.set_cons_succ, List.countP_cons, if_neg (by rw [h a (by simp)]; simp)]
      exact ih fun t ht => h t (by simp [ht])
theorem polar_set {m n n' : Nat} {row : List Pt} {ts : List Rat} {i : Nat} {z : Rat} (h : Rw m row) (hz : ∀ t ∈ ts, Sz n t) (hz' : ∀ t ∈ ts.set i z, Sz n' t) (hn : n ≤ n') (zz : Sz n' z) : ∀ j, ∀ p ∈ foldR ((ts.set i z).take j) row, SzP (m + ts.length * (n + 2) + (n' - n)) p := fun j p hp => by
  have hc : ((ts.set i z).take j).countP (fun t => decide ¬ (t.num.natAbs < 2 ^ n ∧ t.den < 2 ^ n)) ≤ 1 := by
    refine Nat.le_trans (List.Sublist.countP_le (List.take_sublist _ _)) (countP_set fun t ht => ?_)
    have := hz t ht
    simp [this.n, this.d]
  have := h.fold2 (n := n) (n' := n') ((ts.set i z).take j) 1 (fun t ht => hz' t (List.mem_of_mem_take ht)) hc hn
  refine (this.up ?_).sz p hp
  have : ((ts.set i z).take j).length ≤ ts.length := by rw [List.length_take, List.length_set]; omega
  have : ((ts.set i z).take j).length * (n + 2) ≤ ts.length * (n + 2) := Nat.mul_le_mul_right _ this
  omega
end C7
/-! ### list(reversed(x)) -/
namespace C7R
open PySem PySem.Spec PyProof.Rows L2 RT
section
variable {prog : Program} {w : World} {A : Around} {s : Shared} {R : Result → Shared → Prop}
theorem ext_rev {I L S : Addr} {ys : Array Value} {c : Nat} {z : Value} (hh : A.handled = none) (hi : s.heap.IsRevIter I L ((ys.size : Int) - 1)) (hL : s.heap.IsList L ys) (hLI : L ≠ I) (hSI : S ≠ I) (hSL : S ≠ L) (hm : ys.size ≤ sizeLine) (hS : s.heap.get? S = some { cls := .type "list", data := .seq #[] c })
    (q : ∀ h' tk acc' c', (∀ b o, b ≠ S → b ≠ I → s.heap.get? b = some o → h'.get? b = some o) → h'.get? S = some { cls := .type "list", dict := none, data := .seq acc' c', slots := #[] } → ItemsOf (fun i v => ys[ys.size - 1 - i]? = some v) acc' ys.size → R (.ok (.ret z)) { s with heap := h', toks := tk }) :
    wpAny (model prog w) A.in1 (Builtin.List.listExtendWith (.ref S) (.ref I) z) (fun fin s' => match fin with | .done f => R (.ok f) s' | .again c' => c'.quiet = true ∧ codeAny (model prog w) A c' R s') (fun e s' => R (.error e) s') s := by
  have W0 := (Walks.listRev (prog := prog) (w := w) (A := A.in1) hh I L hLI ys).toS
  have ty : s.TypeIs (.ref I) "list_reverseiterator" := hi.typeIs
  have nf : S ∉ [I, L] := fun z => by
    rcases List.mem_cons.mp z with z | z
    · exact hSI z
    · exact hSL (List.mem_singleton.mp z)
  have same : Builtin.List.listSameRef (.ref S) (.ref I) = false := by simp [Builtin.List.listSameRef, hSI]
  have z0 : ((ys.size : Nat) : Int) - 1 - ((0 : Nat) : Int) = (ys.size : Int) - 1 := by omega
  unfold Builtin.List.listExtendWith; refine wpAny_bind (wpAny_typeOf ty ?_)
  rw [if_neg (by rw [same]; decide)]; refine wpAny_bind (wpAny_pyIter_revIter hi ?_)
  refine wpAny_bind (wpAny_holding ?_); unfold Builtin.List.listLengthHint
  refine wpAny_bind (wpAny_specialOf ty nolen_lri ?_); show wpAny _ A.in1 (specialOf (Value.ref I) (Str.ofString "__length_hint__") >>= _) _ _ _
  refine wpAny_bind (wpAny_specialOf ty hint_lri ?_); generalize hn : ("list_reverseiterator.__length_hint__" : String) = nm
  wp_delta
  rw [show splitId nm = some ("list_reverseiterator", "__length_hint__") from by subst hn; decide +kernel]; subst hn
  refine wpAny_bind (wpAny_isInstance (b := true) ty (by rw [isSubtype_type]; kernel_rfl) ?_); refine wpAny_pure ?_
  rw [if_neg (by decide)]
  refine wpAny_pure ⟨plainId_quiet F.plain_extend_loop _, codeAny_extend_loopS W0 hm _ nf _ ys.size 0 _ _ _ rfl (Nat.zero_le _) ⟨Nat.zero_le _, by rw [z0]; exact hi, hL⟩ hS (ItemsOf.nil _) fun s1 acc1 c1 mv g1 it1 => ?_⟩
  rw [Moved.eq_with mv]
  refine q s1.heap s1.toks acc1 c1 (fun b o n1 n2 e => mv.heap b o (fun z => ?_) e) g1 it1
  rcases List.mem_cons.mp z with z | z
  · exact n1 z
  · exact n2 (List.mem_singleton.mp z)
theorem init_rev {I L S : Addr} {ys : Array Value} (hh : A.handled = none) (hi : s.heap.IsRevIter I L ((ys.size : Int) - 1)) (hL : s.heap.IsList L ys) (hLI : L ≠ I) (hSI : S ≠ I) (hSL : S ≠ L) (hm : ys.size ≤ sizeLine) (hS : s.heap.get? S = some { cls := .type "list", data := .seq #[] })
    (q : ∀ h' tk acc' c', (∀ b o, b ≠ S → b ≠ I → s.heap.get? b = some o → h'.get? b = some o) → h'.get? S = some { cls := .type "list", dict := none, data := .seq acc' c', slots := #[] } → ItemsOf (fun i v => ys[ys.size - 1 - i]? = some v) acc' ys.size → R (.ok (.ret .none)) { s with heap := h', toks := tk }) :
    wpAny (model prog w) A.in1 (Builtin.«list.__init__» ⟨[.ref S, .ref I], []⟩) (fun fin s' => match fin with | .done f => R (.ok f) s' | .again c' => c'.quiet = true ∧ codeAny (model prog w) A c' R s') (fun e s' => R (.error e) s') s := by
  show wpAny _ _ (do let old ← Builtin.List.listItems (.ref S); Builtin.List.listUpdate (.ref S) (fun _ => #[]); letGo old.toList.reverse; Builtin.List.listExtendWith (.ref S) (.ref I) .none) _ _ _
  refine wpAny_bind ?_; unfold Builtin.List.listItems
  refine wpAny_bind (wpAny_seqItems hS rfl (wpAny_pure ?_)); show wpAny _ _ (updateSeq S (fun _ => #[]) >>= fun _ => letGo (#[] : Array Value).toList.reverse >>= fun _ => Builtin.List.listExtendWith (.ref S) (.ref I) .none) _ _ _
  refine wpAny_bind (wpAny_updateSeq hS rfl ?_); have g2 := Heap.get?_update_self (Obj.mapSeq (fun _ => (#[] : Array Value))) hS rfl
  have kp : ∀ b o, b ≠ S → s.heap.get? b = some o → (s.heap.update S (Obj.mapSeq (fun _ => (#[] : Array Value)))).get? b = some o := fun b o n e => by rw [Heap.get?_update_other _ _ (Ne.symm n)]; exact e
  refine wpAny_bind (wpAny_letGo ?_)
  obtain ⟨ol, hol, hol2⟩ := id hL
  refine ext_rev (s := { s with heap := s.heap.update S (Obj.mapSeq (fun _ => (#[] : Array Value))) }) hh (hi.at fun o e => kp I o (Ne.symm hSI) e) ⟨ol, kp L ol (Ne.symm hSL) hol, hol2⟩ hLI hSI hSL hm g2 fun h' tk a' c' k' => q h' tk a' c' fun b o n1 n2 e => k' b o n1 n2 (kp b o n1 e)
end
section
variable {prog : Program} {w : World} {A : Around} {E : Value → Shared → Prop} {s : Shared}
theorem call_list_rev {I L : Addr} {ys : Array Value} {Q : Value → Shared → Prop} (hh : A.handled = none) (hi : s.heap.IsRevIter I L ((ys.size : Int) - 1)) (hL : s.heap.IsList L ys) (hLI : L ≠ I) (hm : ys.size ≤ sizeLine)
    (q : ∀ h' tk acc' c', (∀ b o, b ≠ I → s.heap.get? b = some o → h'.get? b = some o) → h'.get? s.heap.objs.size = some { cls := .type "list", dict := none, data := .seq acc' c', slots := #[] } → ItemsOf (fun i v => ys[ys.size - 1 - i]? = some v) acc' ys.size → Q (.ref s.heap.objs.size) { s with heap := h', toks := tk }) :
    wpAny (model prog w) A (call (.type "list") [.ref I]) Q E s := by
  refine callType_codes (Q₁ := fun ob st => ob = .ref s.heap.objs.size ∧ st = { s with heap := s.heap.push { cls := .type "list", data := .seq #[] } }) F.called_list (F.typeCall_list_1 _) F.entry_list_init (code_list_new _ ⟨rfl, rfl⟩) fun ob st hq => ?_
  obtain ⟨rfl, rfl⟩ := hq
  obtain ⟨oi, hoi, _⟩ := id hi
  obtain ⟨ol, hol, hol2⟩ := id hL
  have gS : (s.heap.push { cls := .type "list", data := .seq #[] }).get? s.heap.objs.size = some { cls := .type "list", data := .seq #[] } := Heap.get?_push_size _ rfl
  refine ⟨⟨_, gS, rfl⟩, F.args_list_init_2 _ _, init_rev (A := A.in1) (s := { s with heap := s.heap.push { cls := .type "list", data := .seq #[] } }) hh (hi.at fun o e => Heap.get?_push_of_some _ e) (hL.push _) hLI (Nat.ne_of_gt (Heap.lt_size hoi)) (Nat.ne_of_gt (Heap.lt_size hol)) hm gS fun h' tk a' c' k' g' i' => ?_⟩
  exact ⟨rfl, q h' tk a' c' (fun b o n e => k' b o (Nat.ne_of_lt (Heap.lt_size e)) n (Heap.get?_push_of_some _ e)) g' i'⟩
end
def tLstRev (K : PySem.W.Frag) (te : TE) : TE := fun σ H Q => te σ H fun v H1 => ∃ a xs, v = .ref a ∧ SqL K H1 a xs ∧ ∀ p, H1 p = none → Q (.ref p) (upd H1 p (.lst xs.reverse))
theorem pe_lstRev {X : Cx} {e : Expr} {te : TE} {p p2 pos pos2 : Pos} (hc : X.calm = true) (hg : Gl X "list") (hm : X.mg "list" = none) (hg2 : Gl X "reversed") (hm2 : X.mg "reversed" = none) (he : PE X e te)
    (hs : starEach [e] X.env = (false, eval e X.env) :: starEach [] X.env) (hs2 : starEach [.Call (.Name "reversed" p2) [e] [] pos2] X.env = (false, eval (.Call (.Name "reversed" p2) [e] [] pos2) X.env) :: starEach [] X.env) :
    PE X (.Call (.Name "list" p) [.Call (.Name "reversed" p2) [e] [] pos2] [] pos) (tLstRev X.K te) := by
  refine ⟨fun pins s σ H Q I h => Call_ (ld_blt I hg hm C7.bo_list (PyProof.Rows.callWith_type1 (args_cons (Call_ (ld_blt I hg2 hm2 PyProof.Rows.boot_reversed (PyProof.Rows.callWith_type1 (args_cons (thn (he.run pins s σ H _ I h) fun u s1 ⟨v, H1, I1, r1, q1⟩ => args_nil ?_) hs) hs rfl))) hs2) hs2 rfl))⟩
  obtain ⟨a, xs, rfl, hq, q⟩ := q1
  obtain rfl : u = Value.ref a := r1
  obtain ⟨its, rv, pl, hz⟩ := I1.list hq
  have hl := pl.isList
  obtain ⟨ol, hol, _⟩ := id hl
  refine call_reversed_list hl (args_nil ?_)
  have I2 : Inv X pins σ H1 { s1 with heap := s1.heap.push (revObj a ((its.toArray.size : Int) - 1)) } := I1.kept (t' := s1.toks) fun b o e => Heap.get?_push_of_some _ e
  have fp := I1.fpOk (H' := H1) (b := s1.heap.objs.size) (Nat.le_refl _) (I1.hok.fresh (Nat.le_refl _))
  refine call_list_rev (s := { s1 with heap := s1.heap.push (revObj a ((its.toArray.size : Int) - 1)) }) (I1.ok.hd hc) ⟨_, Heap.get?_push_size _ rfl, rfl, rfl⟩ (hl.push _) (Nat.ne_of_lt (Heap.lt_size hol)) (by rw [List.size_toArray, ← rv.length]; exact hz) fun h' tk acc c' hk hp hi => ?_
  refine ⟨.ref _, _, I2.turnedNew (t' := tk) (ch := [s1.heap.objs.size]) (ob := .lst xs.reverse) (fun b o n e => hk b o (fun z => n (by simp [z])) e) (fun b hb => by rw [List.mem_singleton.mp hb]; exact fp) (Nat.le_refl _) ?_, rfl, q _ (I2.hok.fresh (Nat.le_refl _))⟩
  exact ⟨by rw [List.length_reverse]; exact hz, acc.toList, c', vals_rev rv hi, by rw [Array.toArray_toList]; exact hp⟩
end C7R

namespace C7
open PySem PySem.Spec PyProof.Rows L2
section
variable {X : Cx} {ρ : Ro} {A : AH} {a : Expr} {pos p0 p2 pos2 : Pos} {x : D} {k : AK} {β : Type} {f : β → D} {xs : List β}
theorem al_lstRev (hc : X.calm = true) (hg : Gl X "list") (hm : X.mg "list" = none) (hg2 : Gl X "reversed") (hm2 : X.mg "reversed" = none) (h : AV X a ρ A x) (hl : IsL A x (xs.map f)) (hs : isStar a = false := by rfl) : AL X (.Call (.Name "list" p0) [.Call (.Name "reversed" p2) [a] [] pos2] [] pos) ρ A (xs.reverse.map f) := fun k q σ H s Q qq =>
  tm_of (C7R.pe_lstRev hc hg hm hg2 hm2 (pe_tm a) (star_cons hs) (star_cons rfl)) (h σ H s _ fun v H1 t1 r1 l1 => by
    obtain ⟨p, vs, rfl, g1, g2⟩ := hl.sq r1 l1
    refine ⟨p, vs, rfl, g1, fun z hz => qq _ _ _ _ (t1.trans (TS.new hz)) (.ref z) (l1.newL hz g2.reverse).2 ?_⟩
    rw [← List.map_reverse]
    exact q z (l1.none hz))
theorem av_listRev (hc : X.calm = true) (hg : Gl X "list") (hg2 : Gl X "reversed") (hm : X.mg "list" = none) (hm2 : X.mg "reversed" = none) (h : AV X a ρ A x) (hl : IsL A x (xs.map f)) (hs : isStar a = false := by rfl) : AV X (.Call (.Name "list" p0) [.Call (.Name "reversed" p2) [a] [] pos2] [] pos) ρ A (.fz (xs.reverse.map f)) := (al_lstRev hc hg hm hg2 hm2 h hl hs).av
end
end C7
namespace C7
open PySem PySem.Spec PyProof.Rows L2
/-! ### maps -/
structure Mp where
  a : Rat
  b : Rat
  c : Rat
  d : Rat
  e : Rat
  f : Rat
def mp (m : Mp) : D := .tup [sh m.a, sh m.b, sh m.c, sh m.d, sh m.e, sh m.f]
def led (m : Mp) (p : Pt) : Pt := (m.a * p.1 + m.b * p.2 + m.e, m.c * p.1 + m.d * p.2 + m.f)
structure MpZ (n : Nat) (m : Mp) : Prop where
  a : Sz n m.a
  b : Sz n m.b
  c : Sz n m.c
  d : Sz n m.d
  e : Sz n m.e
  f : Sz n m.f
theorem led_on (m : Mp) (p q : Pt) (t : Rat) : onWay (led m p) (led m q) t = led m (onWay p q t) := by
  unfold onWay led
  refine Prod.ext ?_ ?_
  · show (_ : Rat) = _; dsimp only; grind
  · show (_ : Rat) = _; dsimp only; grind
theorem gp_mapL {row : List Pt} {g : Pt → Pt} {k : Nat} (h : k < row.length) : gp (row.map g) k = g (gp row k) := by
  unfold gp
  rw [List.getD_eq_getElem?_getD, List.getD_eq_getElem?_getD, List.getElem?_map, List.getElem?_eq_getElem h]
  rfl
theorem next_led (m : Mp) (t : Rat) (row : List Pt) : nextR t (row.map (led m)) = (nextR t row).map (led m) := by
  refine row_ext (by rw [nextR_len, List.length_map, List.length_map, nextR_len]) fun k hk => ?_
  rw [nextR_len, List.length_map] at hk
  rw [nextR_gp (by rw [List.length_map]; exact hk), gp_mapL (by omega), gp_mapL (by omega), gp_mapL (by rw [nextR_len]; exact hk), nextR_gp hk, led_on]
theorem iter_led (m : Mp) (t : Rat) (row : List Pt) : ∀ j, iterR t (row.map (led m)) j = (iterR t row j).map (led m) := by
  intro j
  induction j with
  | zero => rfl
  | succ j ih => show nextR t (iterR t (row.map (led m)) j) = (nextR t (iterR t row j)).map (led m); rw [ih, next_led]
theorem point_led {m : Mp} {t : Rat} {row : List Pt} (h : 0 < row.length) : pointR t (row.map (led m)) = led m (pointR t row) := by
  unfold pointR
  rw [iter_led, List.length_map, gp_mapL (by rw [iterR_len]; omega)]
/-! ### sizes -/
theorem ov_dvd {q : Rat} {D : Int} {n k : Nat} (hz : Sz n q) (hd : (q.den : Int) ∣ D) (h0 : D ≠ 0) (hD : D.natAbs < 2 ^ k) : Ov D (n + k) q := by
  obtain ⟨r, hr⟩ := hd
  refine ⟨q.num * r, ?_, ?_⟩
  · have h1 := rat_eq q
    have h2 := den_ne q
    have hr0 : r ≠ 0 := fun z => h0 (by rw [hr, z, Int.mul_zero])
    have hr' : (r : Rat) ≠ 0 := fun z => hr0 (by exact_mod_cast z)
    have c1 : ((q.num * r : Int) : Rat) = (q.num : Rat) * r := by push_cast; rfl
    have c2 : (D : Rat) = (q.den : Rat) * r := by rw [hr]; push_cast; rfl
    rw [c1, c2]
    generalize (q.num : Rat) = x at *
    generalize (q.den : Rat) = y at *
    grind
  · refine bt_mul hz.num ?_
    have : r.natAbs ≤ D.natAbs := by
      rw [hr, Int.natAbs_mul]
      exact Nat.le_mul_of_pos_left _ (by have := den_pos q; omega)
    omega
theorem ov_mul {B C : Int} {m n : Nat} {p q : Rat} (h1 : Ov B m p) (h2 : Ov C n q) : Ov (B * C) (m + n) (p * q) := by
  obtain ⟨N, e, hN⟩ := h1
  obtain ⟨N', e', hN'⟩ := h2
  refine ⟨N * N', ?_, bt_mul hN hN'⟩
  have c1 : ((N * N' : Int) : Rat) = (N : Rat) * N' := by push_cast; rfl
  have c2 : ((B * C : Int) : Rat) = (B : Rat) * C := by push_cast; rfl
  rw [e, e', c1, c2]
  grind
theorem ov_add {B : Int} {m n : Nat} {p q : Rat} (h1 : Ov B m p) (h2 : Ov B n q) : Ov B (max m n + 1) (p + q) := by
  obtain ⟨N, e, hN⟩ := h1
  obtain ⟨N', e', hN'⟩ := h2
  refine ⟨N + N', ?_, bt_add hN hN'⟩
  have c1 : ((N + N' : Int) : Rat) = (N : Rat) + N' := by push_cast; rfl
  rw [e, e', c1]
  grind
theorem ov_sub {B : Int} {m n : Nat} {p q : Rat} (h1 : Ov B m p) (h2 : Ov B n q) : Ov B (max m n + 1) (p - q) := by
  obtain ⟨N, e, hN⟩ := h1
  obtain ⟨N', e', hN'⟩ := h2
  refine ⟨N - N', ?_, bt_sub hN hN'⟩
  have c1 : ((N - N' : Int) : Rat) = (N : Rat) - N' := by push_cast; rfl
  rw [e, e', c1]
  grind
theorem Ov.comm {B C : Int} {m : Nat} {q : Rat} (h : Ov (B * C) m q) : Ov (C * B) m q := Int.mul_comm B C ▸ h
def mdens (m : Mp) : List Rat := [m.a, m.b, m.c, m.d, m.e, m.f]
theorem dens_dvd : ∀ {ts : List Rat} {q : Rat}, q ∈ ts → (q.den : Int) ∣ dens ts
  | t :: ts, q, h => by
    rcases List.mem_cons.mp h with h | h
    · rw [h]; exact Int.dvd_mul_right _ _
    · exact Int.dvd_trans (dens_dvd h) (Int.dvd_mul_left _ _)
theorem MpZ.all {n : Nat} {m : Mp} (h : MpZ n m) : ∀ t ∈ mdens m, Sz n t := fun t ht => by
  simp only [mdens, List.mem_cons, List.not_mem_nil, or_false] at ht
  rcases ht with h' | h' | h' | h' | h' | h' <;> rw [h']
  · exact h.a
  · exact h.b
  · exact h.c
  · exact h.d
  · exact h.e
  · exact h.f
theorem Rw.map {m n : Nat} {row : List Pt} {M : Mp} (h : Rw m row) (hM : MpZ n M) : Rw (m + 7 * n + 4) (row.map (led M)) := by
  obtain ⟨B, h0, h1, h2⟩ := h
  have hD0 := dens_ne (mdens M)
  have hD : (dens (mdens M)).natAbs < 2 ^ (6 * n + 1) := dens_bt (mdens M) hM.all
  refine ⟨B * dens (mdens M), Int.mul_ne_zero h0 hD0, bt_le (bt_mul h1 hD) (by omega), fun p hp => ?_⟩
  rw [List.mem_map] at hp
  obtain ⟨q, hq, rfl⟩ := hp
  have hq := h2 q hq
  have ov : ∀ t ∈ mdens M, Ov (dens (mdens M)) (n + (6 * n + 1)) t := fun t ht => ov_dvd (hM.all t ht) (dens_dvd ht) hD0 hD
  have key : ∀ a b e : Rat, a ∈ mdens M → b ∈ mdens M → e ∈ mdens M → Ov (B * dens (mdens M)) (m + 7 * n + 4) (a * q.1 + b * q.2 + e) := fun a b e ha hb he => by
    have x1 := (ov_mul (ov a ha) hq.1).comm
    have x2 := (ov_mul (ov b hb) hq.2).comm
    have x3 := ((ov e he).lift h0 h1).comm
    exact (ov_add (ov_add x1 x2) x3).up (by omega)
  exact ⟨key _ _ _ (by simp [mdens]) (by simp [mdens]) (by simp [mdens]), key _ _ _ (by simp [mdens]) (by simp [mdens]) (by simp [mdens])⟩
theorem len6 {α : Type} {as : List α} (h : as.length = 6) : ∃ a b c d e f, as = [a, b, c, d, e, f] := by
  match as, h with
  | [a, b, c, d, e, f], _ => exact ⟨a, b, c, d, e, f, rfl⟩
/-! ### tuples put together; is not True; any(..) within a suite -/
section
variable {X : Cx} {ρ : Ro} {A : AH} {a b : Expr} {pos p0 : Pos} {ds es : List D}
theorem av_catT {d : D} {ds : List D} (ha : AV X a ρ A (.tup (d :: ds))) (hb : AV X b ρ A (.tup es)) (hz : (d :: ds).length + es.length ≤ sizeLine := by first | decide | exact Nat.le_of_ble_eq_true rfl) (hne : es ≠ [] := by simp) : AV X (.BinOp a .Add b pos) ρ A (.tup ((d :: ds) ++ es)) :=
  av_op op_catT ha hb fun v u H r1 r2 l Q q => by
    obtain ⟨p, vs, rfl, h1, h2⟩ := r1.tup_of
    obtain ⟨p', ws, rfl, h3, h4⟩ := r2.tup_of
    refine ⟨p, p', vs, ws, rfl, rfl, h1, h3, ?_, by rw [h2.length, h4.length]; exact hz, ?_, fun _ z hz' => q _ _ (TS.new hz') (tup_ok (h2.append h4) hz') (l.newT hz')⟩
    · intro e; rw [e] at h2; cases h2
    · intro e
      rw [e] at h4
      exact absurd (by cases h4; rfl) hne
theorem at_isnotB {x y : Bool} (ha : AV X a ρ A (.bl x)) (hb : AV X b ρ A (.bl y)) : AT X (.Compare a [.IsNot] [b] pos) ρ A (!decide (x = y)) :=
  at_cmp op_notBl (nomark _) ha hb fun v u H r1 r2 l Q q => by
    rw [r1.bl_of, r2.bl_of]
    exact ⟨x, y, rfl, rfl, q H (TS.refl H) l⟩
end
section
variable {X : Cx} {ρ : Ro} {A : AH} {a : Expr} {pos p0 : Pos} {p : Addr} {oe : Obj} {pn : List (Addr × Obj)} {bs : List Bool}
theorem av_anyH {cls : Value} {dd : Option Addr} (hz : L2N.Zn cls dd oe) (hf : ∃ vs, oe.data = .fields vs) (hg : Gl X "any") (hm : X.mg "any" = none) (h : AV (X.suite p ((p, oe) :: pn)) a ρ A (.fz (bs.map D.bl))) (hs : starEach [a] X.env = [(false, eval a X.env)] := by rfl) :
    AV (X.suite p ((p, oe) :: pn)) (.Call (.Name "any" p0) [a] [] pos) ρ A (.bl (bs.any id)) := AE.av (ae_anyH hz hf hg hm (h.ae ⟨bs, IsL.fz, rfl, Ext.refl A⟩) hs)
end
/-! ### one map and another; back -/
def thenM (m n : Mp) : Mp := ⟨n.a * m.a + n.b * m.c, n.a * m.b + n.b * m.d, n.c * m.a + n.d * m.c, n.c * m.b + n.d * m.d, (led n (m.e, m.f)).1, (led n (m.e, m.f)).2⟩
theorem led_then (m n : Mp) (p : Pt) : led (thenM m n) p = led n (led m p) := by
  unfold led thenM
  refine Prod.ext ?_ ?_
  · show (_ : Rat) = _; dsimp only [led]; grind
  · show (_ : Rat) = _; dsimp only [led]; grind
def detM (m : Mp) : Rat := m.a * m.d - m.b * m.c
def turnM (m : Mp) : Mp := ⟨m.d / detM m, (0 - m.b) / detM m, (0 - m.c) / detM m, m.a / detM m, 0, 0⟩
def backM (m : Mp) : Mp := { turnM m with e := 0 - (led (turnM m) (m.e, m.f)).1, f := 0 - (led (turnM m) (m.e, m.f)).2 }
theorem led_back {m : Mp} (h : detM m ≠ 0) (p : Pt) : led (backM m) (led m p) = p := by
  unfold led backM turnM led
  unfold detM at *
  refine Prod.ext ?_ ?_
  · show (_ : Rat) = p.1; dsimp only; grind
  · show (_ : Rat) = p.2; dsimp only; grind
theorem back_led {m : Mp} (h : detM m ≠ 0) (p : Pt) : led m (led (backM m) p) = p := by
  unfold led backM turnM led
  unfold detM at *
  refine Prod.ext ?_ ?_
  · show (_ : Rat) = p.1; dsimp only; grind
  · show (_ : Rat) = p.2; dsimp only; grind
theorem num_zero {q : Rat} : q.num = 0 ↔ q = 0 := by
  constructor
  · intro h; rw [rat_eq q, h]; grind
  · intro h; rw [h]; rfl
end C7
namespace C7
theorem neg_tup (g : Rat) : D.tup [.int (0 - g.num), .int (g.den : Int)] = sh (0 - g) := by
  have e : (0 : Rat) - g = -g := by grind
  unfold sh
  rw [e, Rat.neg_num, Rat.neg_den, Int.zero_sub]
end C7
namespace C7
open PySem PySem.Spec PyProof.Rows L2
section
variable {X : Cx} {ρ : Ro} {A : AH} {a : Expr} {β : Type} {f : β → D} {tg : Expr} {kI : AH → (AH → Prop) → Nat → (Nat → D) → Prop}
theorem ai_FE (d0 : β) (h : AE X a ρ A fun d A1 => ∃ xs : List β, d = .fz (xs.map f) ∧ kI A1 (fun _ => True) xs.length (fun i => f (xs.getD i d0))) : AI X tg a ρ A kI :=
  AI.to (ai_list (h.mono fun d A1 ⟨xs, e, q⟩ => ⟨_, by rw [e]; exact IsL.fz, fun _ => True, fun i => f (xs.getD i d0), fun i hi => getD_mapF d0 (by rw [List.length_map] at hi; exact hi), fun _ _ => by rw [e]; exact IsL.fz, by rw [List.length_map]; exact q⟩))
end
theorem led_sz {n m : Nat} {M : Mp} {p : Pt} (h : MpZ n M) (hp : SzP m p) : SzP (3 * n + 2 * m + 2) (led M p) := ⟨(sz_add (sz_add (sz_mul h.a hp.1) (sz_mul h.b hp.2)) h.e).up (by omega), (sz_add (sz_add (sz_mul h.c hp.1) (sz_mul h.d hp.2)) h.f).up (by omega)⟩
theorem then_z {n : Nat} {m1 m2 : Mp} (h1 : MpZ n m1) (h2 : MpZ n m2) : MpZ (5 * n + 2) (thenM m1 m2) := by
  have z := led_sz h2 (p := (m1.e, m1.f)) ⟨h1.e, h1.f⟩
  exact ⟨(sz_add (sz_mul h2.a h1.a) (sz_mul h2.b h1.c)).up (by omega), (sz_add (sz_mul h2.a h1.b) (sz_mul h2.b h1.d)).up (by omega), (sz_add (sz_mul h2.c h1.a) (sz_mul h2.d h1.c)).up (by omega), (sz_add (sz_mul h2.c h1.b) (sz_mul h2.d h1.d)).up (by omega), z.1.up (by omega), z.2.up (by omega)⟩
theorem turn_z {n : Nat} {m : Mp} (h : MpZ n m) (hd : detM m ≠ 0) : MpZ (6 * n + 3) (turnM m) := by
  have zw : Sz (n + n + (n + n) + 1) (detM m) := sz_sub (sz_mul h.a h.d) (sz_mul h.b h.c)
  exact ⟨(sz_divR h.d zw hd).up (by omega), (sz_divR (sz_sub sz_zero h.b) zw hd).up (by omega), (sz_divR (sz_sub sz_zero h.c) zw hd).up (by omega), (sz_divR h.a zw hd).up (by omega), sz_zero.up (by omega), sz_zero.up (by omega)⟩
theorem back_z {n : Nat} {m : Mp} (h : MpZ n m) (hd : detM m ≠ 0) : MpZ (20 * n + 14) (backM m) := by
  have t := turn_z h hd
  have z := led_sz t (p := (m.e, m.f)) ⟨h.e, h.f⟩
  exact ⟨t.a.up (by omega), t.b.up (by omega), t.c.up (by omega), t.d.up (by omega), (sz_sub sz_zero z.1).up (by omega), (sz_sub sz_zero z.2).up (by omega)⟩
theorem back_led_sz {n k : Nat} {m : Mp} {p : Pt} (h : MpZ n m) (hd : detM m ≠ 0) (hp : SzP k p) : SzP (32 * n + 2 * k + 24) (led (backM m) p) := by
  have t := turn_z h hd
  have b := back_z h hd
  exact ⟨(sz_add (sz_add (sz_mul t.a hp.1) (sz_mul t.b hp.2)) b.e).up (by omega), (sz_add (sz_add (sz_mul t.c hp.1) (sz_mul t.d hp.2)) b.f).up (by omega)⟩
end C7
namespace C7
open PySem PySem.Spec PyProof.Rows L2
/-! ### differences and powers, on sequences -/
def dl (x : Nat → Rat) : Nat → Rat := fun i => x (i + 1) - x i
def dn : Nat → (Nat → Rat) → Nat → Rat
  | 0, x => x
  | k + 1, x => dl (dn k x)
theorem dl_nx (t : Rat) (x : Nat → Rat) : dl (nx t x) = nx t (dl x) := by funext i; unfold dl nx; grind
theorem dn_nx (t : Rat) : ∀ (k : Nat) (x : Nat → Rat), dn k (nx t x) = nx t (dn k x)
  | 0, _ => rfl
  | k + 1, x => by show dl (dn k (nx t x)) = nx t (dl (dn k x)); rw [dn_nx t k x, dl_nx]
theorem dn_dl : ∀ (k : Nat) (x : Nat → Rat), dn k (dl x) = dn (k + 1) x
  | 0, _ => rfl
  | k + 1, x => by show dl (dn k (dl x)) = dl (dn (k + 1) x); rw [dn_dl k x]
theorem dn_loc : ∀ (k : Nat) (x y : Nat → Rat) (i : Nat), (∀ j, j ≤ k → x (i + j) = y (i + j)) → dn k x i = dn k y i
  | 0, x, y, i, h => h 0 (Nat.le_refl _)
  | k + 1, x, y, i, h => by
    show dn k x (i + 1) - dn k x i = dn k y (i + 1) - dn k y i
    rw [dn_loc k x y (i + 1) fun j hj => by rw [show i + 1 + j = i + (j + 1) by omega]; exact h (j + 1) (by omega), dn_loc k x y i fun j hj => h j (by omega)]
theorem ch_succ (n k : Nat) : ((ch (n + 1) (k + 1) : Nat) : Rat) = (ch n k : Rat) + (ch n (k + 1) : Rat) := by
  show ((ch n k + ch n (k + 1) : Nat) : Rat) = _
  push_cast
  rfl
theorem pascal (g : Nat → Rat) (n : Nat) : sumN (fun k => (ch (n + 1) k : Rat) * g k) (n + 2) = sumN (fun k => (ch n k : Rat) * g k) (n + 1) + sumN (fun k => (ch n k : Rat) * g (k + 1)) (n + 1) := by
  rw [sumN_first]
  have e1 : sumN (fun k => ((ch (n + 1) (k + 1) : Nat) : Rat) * g (k + 1)) (n + 1) = sumN (fun k => (ch n k : Rat) * g (k + 1)) (n + 1) + sumN (fun k => (ch n (k + 1) : Rat) * g (k + 1)) (n + 1) := by
    rw [← sumN_add]
    exact sumN_congr fun k _ => by rw [ch_succ]; grind
  have e2 : sumN (fun k => (ch n k : Rat) * g k) (n + 2) = (ch n 0 : Rat) * g 0 + sumN (fun k => (ch n (k + 1) : Rat) * g (k + 1)) (n + 1) := sumN_first _ _
  have e3 : sumN (fun k => (ch n k : Rat) * g k) (n + 2) = sumN (fun k => (ch n k : Rat) * g k) (n + 1) := by
    show sumN (fun k => (ch n k : Rat) * g k) (n + 1) + (ch n (n + 1) : Rat) * g (n + 1) = _
    rw [ch_over (show n < n + 1 by omega)]
    grind
  have e4 : ((ch (n + 1) 0 : Nat) : Rat) = (ch n 0 : Rat) := by rw [ch_zero, ch_zero]
  rw [e4]
  show (ch n 0 : Rat) * g 0 + sumN (fun k => ((ch (n + 1) (k + 1) : Nat) : Rat) * g (k + 1)) (n + 1) = _
  rw [e1]
  grind
theorem ops_sum (t : Rat) : ∀ (n : Nat) (x : Nat → Rat) (i : Nat), ops (List.replicate n t) x i = sumN (fun k => (ch n k : Rat) * (t ^ k * dn k x i)) (n + 1) := by
  intro n
  induction n with
  | zero =>
    intro x i
    show x i = 0 + (ch 0 0 : Rat) * (t ^ 0 * x i)
    rw [ch_zero, Rat.pow_zero]
    grind
  | succ n ih =>
    intro x i
    show ops (List.replicate n t) (nx t x) i = _
    rw [ih, pascal (fun k => t ^ k * dn k x i) n, ← sumN_add]
    refine sumN_congr fun k _ => ?_
    rw [dn_nx]
    show _ * (_ * (dn k x i + t * (dn k x (i + 1) - dn k x i))) = _
    have : dn (k + 1) x i = dn k x (i + 1) - dn k x i := rfl
    rw [this, Rat.pow_succ]
    grind
theorem newton (n : Nat) (x : Nat → Rat) (i : Nat) : x (i + n) = sumN (fun k => (ch n k : Rat) * dn k x i) (n + 1) := by
  rw [← ops_rep1 n x i, ops_sum]
  refine sumN_congr fun k _ => ?_
  have : ∀ k : Nat, (1 : Rat) ^ k = 1 := fun k => by
    induction k with
    | zero => rfl
    | succ k ih => rw [Rat.pow_succ, ih]; grind
  rw [this]
  grind
def sg (m : Nat) : Rat := if m % 2 = 0 then 1 else -1
theorem sg_succ (m : Nat) : sg (m + 1) = -sg m := by
  unfold sg
  rcases Nat.mod_two_eq_zero_or_one m with h | h
  · rw [h, if_neg (by omega), if_pos rfl]
  · rw [h, if_pos (by omega), if_neg (by decide)]; grind
theorem dn_sum : ∀ (k : Nat) (x : Nat → Rat) (i : Nat), dn k x i = sumN (fun j => (ch k j : Rat) * (sg (k - j) * x (i + j))) (k + 1) := by
  intro k
  induction k with
  | zero =>
    intro x i
    show x i = 0 + (ch 0 0 : Rat) * (sg 0 * x (i + 0))
    rw [ch_zero, show sg 0 = 1 from rfl, Nat.add_zero]
    grind
  | succ k ih =>
    intro x i
    show dn k x (i + 1) - dn k x i = _
    rw [pascal (fun j => sg (k + 1 - j) * x (i + j)) k, ih, ih]
    have e1 : sumN (fun j => (ch k j : Rat) * (sg (k + 1 - j) * x (i + j))) (k + 1) = -1 * sumN (fun j => (ch k j : Rat) * (sg (k - j) * x (i + j))) (k + 1) := by
      rw [← sumN_mul]
      refine sumN_congr fun j hj => ?_
      rw [show k + 1 - j = (k - j) + 1 by omega, sg_succ]
      grind
    have e2 : sumN (fun j => (ch k j : Rat) * (sg (k + 1 - (j + 1)) * x (i + (j + 1)))) (k + 1) = sumN (fun j => (ch k j : Rat) * (sg (k - j) * x (i + 1 + j))) (k + 1) := by
      refine sumN_congr fun j hj => ?_
      rw [show k + 1 - (j + 1) = k - j by omega, show i + (j + 1) = i + 1 + j by omega]
    rw [e1, e2]
    grind
/-- the sequence whose differences at the begin are e -/
def Nw (e : Nat → Rat) (j : Nat) : Rat := sumN (fun a => (ch j a : Rat) * e a) (j + 1)
theorem dl_Nw (e : Nat → Rat) : dl (Nw e) = Nw fun a => e (a + 1) := by
  funext j
  show Nw e (j + 1) - Nw e j = _
  unfold Nw
  rw [pascal]
  grind
theorem dn_Nw : ∀ (k : Nat) (e : Nat → Rat), dn k (Nw e) 0 = e k := by
  intro k
  induction k with
  | zero =>
    intro e
    show (0 : Rat) + (ch 0 0 : Rat) * e 0 = e 0
    rw [ch_zero]
    grind
  | succ k ih => intro e; rw [← dn_dl, dl_Nw, ih]
theorem Nw_loc {e e' : Nat → Rat} {j : Nat} (h : ∀ a, a ≤ j → e a = e' a) : Nw e j = Nw e' j := sumN_congr fun a ha => by rw [h a (by omega)]
/-! ### of curves -/
def prs (f g : Nat → Rat) (n : Nat) : List Pt := (List.range n).map fun k => (f k, g k)
theorem prs_len (f g : Nat → Rat) (n : Nat) : (prs f g n).length = n := by unfold prs; simp
theorem prs_gp {f g : Nat → Rat} {n k : Nat} (h : k < n) : gp (prs f g n) k = (f k, g k) := gp_map h
theorem prs_px {f g : Nat → Rat} {n k : Nat} (h : k < n) : px (prs f g n) k = f k ∧ py (prs f g n) k = g k := by unfold px py; rw [prs_gp h]; exact ⟨rfl, rfl⟩
theorem prs_self (row : List Pt) : prs (px row) (py row) row.length = row := row_ext (prs_len _ _ _) fun k hk => by rw [prs_len] at hk; rw [prs_gp hk]; rfl
def powersR (row : List Pt) : List Pt := prs (fun k => (ch (row.length - 1) k : Rat) * dn k (px row) 0) (fun k => (ch (row.length - 1) k : Rat) * dn k (py row) 0) row.length
theorem powersR_len (row : List Pt) : (powersR row).length = row.length := prs_len _ _ _
def ofPowR (c : List Pt) : List Pt := prs (Nw fun a => px c a / (ch (c.length - 1) a : Rat)) (Nw fun a => py c a / (ch (c.length - 1) a : Rat)) c.length
theorem ofPowR_len (c : List Pt) : (ofPowR c).length = c.length := prs_len _ _ _
theorem ch_pos : ∀ {n k : Nat}, k ≤ n → 0 < ch n k := by
  intro n
  induction n with
  | zero => intro k h; rw [show k = 0 by omega]; decide
  | succ n ih =>
    intro k h
    match k with
    | 0 => exact Nat.one_pos
    | k + 1 => show 0 < ch n k + ch n (k + 1); have := ih (k := k) (by omega); omega
theorem ch_ne {n k : Nat} (h : k ≤ n) : (ch n k : Rat) ≠ 0 := by
  have := ch_pos h
  exact_mod_cast (show ((ch n k : Nat) : Int) ≠ 0 by omega)
theorem of_pow (row : List Pt) : ofPowR (powersR row) = row := by
  refine row_ext (by rw [ofPowR_len, powersR_len]) fun k hk => ?_
  rw [ofPowR_len, powersR_len] at hk
  have key : ∀ (x : Nat → Rat) (f : Nat → Rat), (∀ a, a < row.length → f a = (ch (row.length - 1) a : Rat) * dn a x 0) → Nw (fun a => f a / (ch (row.length - 1) a : Rat)) k = x k := by
    intro x f hf
    have := newton k x 0
    rw [Nat.zero_add] at this
    rw [this]
    refine sumN_congr fun a ha => ?_
    dsimp only
    rw [hf a (by omega)]
    have := ch_ne (n := row.length - 1) (k := a) (by omega)
    congr 1
    generalize (ch (row.length - 1) a : Rat) = c at *
    grind
  unfold ofPowR
  rw [powersR_len, prs_gp hk, key (px row) (px (powersR row)) fun a ha => (prs_px ha).1, key (py row) (py (powersR row)) fun a ha => (prs_px ha).2]
  rfl
theorem pow_of (c : List Pt) : powersR (ofPowR c) = c := by
  refine row_ext (by rw [powersR_len, ofPowR_len]) fun k hk => ?_
  rw [powersR_len, ofPowR_len] at hk
  have key : ∀ (f x : Nat → Rat), (∀ a, a < c.length → x a = Nw (fun b => f b / (ch (c.length - 1) b : Rat)) a) → (ch (c.length - 1) k : Rat) * dn k x 0 = f k := by
    intro f x hx
    rw [dn_loc k x (Nw fun b => f b / (ch (c.length - 1) b : Rat)) 0 fun j hj => by rw [Nat.zero_add]; exact hx j (by omega), dn_Nw]
    have := ch_ne (n := c.length - 1) (k := k) (by omega)
    generalize (ch (c.length - 1) k : Rat) = z at *
    grind
  unfold powersR
  rw [ofPowR_len, prs_gp hk, key (px c) (px (ofPowR c)) fun a ha => (prs_px ha).1, key (py c) (py (ofPowR c)) fun a ha => (prs_px ha).2]
  rfl
/-- the sum by the powers of t -/
def evalR (c : List Pt) (t : Rat) : Pt := (sumN (fun k => t ^ k * px c k) c.length, sumN (fun k => t ^ k * py c k) c.length)
theorem point_pow {t : Rat} {row : List Pt} (h : 0 < row.length) : pointR t row = evalR (powersR row) t := by
  rw [pointR_polar h, polarR_eq (by simp; omega), ops_sum, ops_sum]
  unfold evalR
  rw [powersR_len, show row.length - 1 + 1 = row.length by omega]
  refine Prod.ext ?_ ?_
  · refine sumN_congr fun k hk => ?_
    rw [show px (powersR row) k = _ from (prs_px hk).1]
    grind
  · refine sumN_congr fun k hk => ?_
    rw [show py (powersR row) k = _ from (prs_px hk).2]
    grind
theorem absorb (n a : Nat) : ((a : Int) + 1) * ch (n + 1) (a + 1) = ((n : Int) + 1) * ch n a := by
  have h := ch_step n a
  show ((a : Int) + 1) * ((ch n a + ch n (a + 1) : Nat) : Int) = _
  push_cast
  grind
theorem absorb' (n a : Nat) : (ch (n + 1) a : Int) * (((n : Int) + 1) - a) = ((n : Int) + 1) * ch n a := by
  have h := ch_step (n + 1) a
  have h2 := absorb n a
  push_cast at h
  grind
theorem absorbQ (n a : Nat) : ((a : Rat) + 1) * (ch (n + 1) (a + 1) : Rat) = ((n : Rat) + 1) * (ch n a : Rat) := by exact_mod_cast absorb n a
theorem absorbQ' (n a : Nat) : (ch (n + 1) a : Rat) * (((n : Rat) + 1) - a) = ((n : Rat) + 1) * (ch n a : Rat) := by
  have h := absorb' n a
  have : (((ch (n + 1) a : Int) * (((n : Int) + 1) - a) : Int) : Rat) = ((((n : Int) + 1) * ch n a : Int) : Rat) := by rw [h]
  push_cast at this
  exact this
/-! ### one seat more -/
def rz (n : Nat) (x : Nat → Rat) (k : Nat) : Rat := x k + (k : Rat) / (n : Rat) * (x (k - 1) - x k)
def raisedR (row : List Pt) : List Pt := prs (rz row.length (px row)) (rz row.length (py row)) (row.length + 1)
theorem raisedR_len (row : List Pt) : (raisedR row).length = row.length + 1 := prs_len _ _ _
theorem Nw_rz {n k : Nat} (x : Nat → Rat) (hn : 0 < n) : Nw (fun a => ((n : Rat) - a) / n * dn a x 0) k = rz n x k := by
  have hn' : (n : Rat) ≠ 0 := by exact_mod_cast (show (n : Int) ≠ 0 by omega)
  have h1 := newton k x 0
  rw [Nat.zero_add] at h1
  have e1 : Nw (fun a => ((n : Rat) - a) / n * dn a x 0) k = x k + (-1 / (n : Rat)) * sumN (fun a => (ch k a : Rat) * ((a : Rat) * dn a x 0)) (k + 1) := by
    rw [h1, ← sumN_mul, ← sumN_add]
    refine sumN_congr fun a _ => ?_
    dsimp only
    grind
  rw [e1]
  unfold rz
  cases k with
  | zero =>
    show x 0 + _ * (0 + (ch 0 0 : Rat) * (((0 : Nat) : Rat) * dn 0 x 0)) = x 0 + ((0 : Nat) : Rat) / n * _
    have : ((0 : Nat) : Rat) = 0 := rfl
    rw [this]
    grind
  | succ m =>
    have h2 := newton m (dl x) 0
    rw [Nat.zero_add] at h2
    have e2 : sumN (fun a => (ch (m + 1) a : Rat) * ((a : Rat) * dn a x 0)) (m + 1 + 1) = ((m : Rat) + 1) * dl x m := by
      rw [sumN_first, h2, ← sumN_mul]
      have z : ((ch (m + 1) 0 : Nat) : Rat) * (((0 : Nat) : Rat) * dn 0 x 0) = 0 := by
        have : ((0 : Nat) : Rat) = 0 := rfl
        rw [this]
        grind
      rw [z]
      have : sumN (fun k => ((ch (m + 1) (k + 1) : Nat) : Rat) * (((k + 1 : Nat) : Rat) * dn (k + 1) x 0)) (m + 1) = sumN (fun k => ((m : Rat) + 1) * ((ch m k : Rat) * dn k (dl x) 0)) (m + 1) := by
        refine sumN_congr fun b _ => ?_
        have h := absorbQ m b
        have c : ((b + 1 : Nat) : Rat) = (b : Rat) + 1 := by push_cast; rfl
        rw [dn_dl, c]
        grind
      rw [this]
      grind
    rw [e2]
    have c : ((m + 1 : Nat) : Rat) = (m : Rat) + 1 := by push_cast; rfl
    rw [c, Nat.add_sub_cancel]
    show x (m + 1) + _ * (_ * (x (m + 1) - x m)) = _
    grind
theorem raised_pow {row : List Pt} (h : 0 < row.length) : raisedR row = ofPowR (powersR row ++ [(0, 0)]) := by
  have hl : (powersR row ++ [((0, 0) : Pt)]).length = row.length + 1 := by rw [List.length_append, powersR_len]; rfl
  refine row_ext (by rw [raisedR_len, ofPowR_len, hl]) fun k hk => ?_
  rw [raisedR_len] at hk
  have ga : ∀ a, a < row.length → gp (powersR row ++ [((0, 0) : Pt)]) a = gp (powersR row) a := fun a ha => by
    unfold gp
    rw [List.getD_eq_getElem?_getD, List.getD_eq_getElem?_getD, List.getElem?_append_left (by rw [powersR_len]; exact ha)]
  have gn : gp (powersR row ++ [((0, 0) : Pt)]) row.length = (0, 0) := by
    unfold gp
    rw [List.getD_eq_getElem?_getD, List.getElem?_append_right (by rw [powersR_len]; exact Nat.le_refl _), powersR_len]
    simp
  have key : ∀ (x f : Nat → Rat), (∀ a, a < row.length → f a = (ch (row.length - 1) a : Rat) * dn a x 0) → f row.length = 0 → Nw (fun a => f a / (ch row.length a : Rat)) k = rz row.length x k := by
    intro x f h1 h2
    rw [← Nw_rz x h]
    refine Nw_loc fun a ha => ?_
    by_cases hlt : a < row.length
    · rw [h1 a hlt]
      obtain ⟨m, hm⟩ : ∃ m, row.length = m + 1 := ⟨row.length - 1, by omega⟩
      have hh := absorbQ' m a
      have hc := ch_ne (n := m + 1) (k := a) (by omega)
      have hn' : (m : Rat) + 1 ≠ 0 := by exact_mod_cast (show (m : Int) + 1 ≠ 0 by omega)
      have c : ((m + 1 : Nat) : Rat) = (m : Rat) + 1 := by push_cast; rfl
      rw [hm, Nat.add_sub_cancel, c]
      generalize (ch (m + 1) a : Rat) = u at *
      generalize (ch m a : Rat) = v at *
      generalize (m : Rat) + 1 = w at *
      generalize dn a x 0 = d at *
      have : v = u * (w - a) / w := by grind
      rw [this]
      grind
    · rw [show a = row.length by omega, h2]
      grind
  unfold raisedR ofPowR
  rw [hl, prs_gp hk, prs_gp hk, Nat.add_sub_cancel, key (px row) (px (powersR row ++ [((0, 0) : Pt)])) (fun a ha => by unfold px; rw [ga a ha]; exact (prs_px ha).1) (by unfold px; rw [gn]), key (py row) (py (powersR row ++ [((0, 0) : Pt)])) (fun a ha => by unfold py; rw [ga a ha]; exact (prs_px ha).2) (by unfold py; rw [gn])]
theorem pow_raised {row : List Pt} (h : 0 < row.length) : powersR (raisedR row) = powersR row ++ [(0, 0)] := by rw [raised_pow h, pow_of]
theorem eval_snoc (c : List Pt) (t : Rat) : evalR (c ++ [(0, 0)]) t = evalR c t := by
  have ga : ∀ a, a < c.length → gp (c ++ [((0, 0) : Pt)]) a = gp c a := fun a ha => by
    unfold gp
    rw [List.getD_eq_getElem?_getD, List.getD_eq_getElem?_getD, List.getElem?_append_left ha]
  have gn : gp (c ++ [((0, 0) : Pt)]) c.length = (0, 0) := by
    unfold gp
    rw [List.getD_eq_getElem?_getD, List.getElem?_append_right (Nat.le_refl _)]
    simp
  have hl : (c ++ [((0, 0) : Pt)]).length = c.length + 1 := by rw [List.length_append]; rfl
  unfold evalR
  rw [hl]
  refine Prod.ext ?_ ?_
  · show sumN _ c.length + t ^ c.length * px (c ++ [((0, 0) : Pt)]) c.length = _
    rw [show px (c ++ [((0, 0) : Pt)]) c.length = 0 by unfold px; rw [gn], sumN_congr (g := fun k => t ^ k * px c k) fun k hk => by unfold px; rw [ga k hk]]
    grind
  · show sumN _ c.length + t ^ c.length * py (c ++ [((0, 0) : Pt)]) c.length = _
    rw [show py (c ++ [((0, 0) : Pt)]) c.length = 0 by unfold py; rw [gn], sumN_congr (g := fun k => t ^ k * py c k) fun k hk => by unfold py; rw [ga k hk]]
    grind
theorem point_raised {t : Rat} {row : List Pt} (h : 0 < row.length) : pointR t (raisedR row) = pointR t row := by
  rw [point_pow (by rw [raisedR_len]; omega), pow_raised h, eval_snoc, ← point_pow h]
/-! ### speeds -/
def speedR (row : List Pt) : List Pt := if row.length = 1 then [(0, 0)] else prs (fun k => ((row.length - 1 : Nat) : Rat) * dl (px row) k) (fun k => ((row.length - 1 : Nat) : Rat) * dl (py row) k) (row.length - 1)
theorem speedR_len {row : List Pt} (h : 1 < row.length) : (speedR row).length = row.length - 1 := by unfold speedR; rw [if_neg (by omega), prs_len]
theorem dn_mul (c : Rat) : ∀ (k : Nat) (x : Nat → Rat), dn k (fun i => c * x i) = fun i => c * dn k x i
  | 0, _ => rfl
  | k + 1, x => by show dl (dn k fun i => c * x i) = _; rw [dn_mul c k x]; funext i; show c * dn k x (i + 1) - c * dn k x i = c * (dn k x (i + 1) - dn k x i); grind
theorem pow_speed {row : List Pt} {k : Nat} (h : 1 < row.length) (hk : k < row.length - 1) : gp (powersR (speedR row)) k = (((k : Rat) + 1) * px (powersR row) (k + 1), ((k : Rat) + 1) * py (powersR row) (k + 1)) := by
  have hl := speedR_len h
  obtain ⟨m, hm⟩ : ∃ m, row.length = m + 2 := ⟨row.length - 2, by omega⟩
  have key : ∀ x y : Nat → Rat, (∀ a, a < row.length - 1 → y a = ((row.length - 1 : Nat) : Rat) * dl x a) → (ch (row.length - 1 - 1) k : Rat) * dn k y 0 = ((k : Rat) + 1) * ((ch (row.length - 1) (k + 1) : Rat) * dn (k + 1) x 0) := by
    intro x y hy
    rw [dn_loc k y (fun i => ((row.length - 1 : Nat) : Rat) * dl x i) 0 fun j hj => by rw [Nat.zero_add]; exact hy j (by omega), dn_mul, ← dn_dl]
    have hh := absorbQ m k
    rw [hm, show m + 2 - 1 - 1 = m by omega, show m + 2 - 1 = m + 1 by omega]
    have c : ((m + 1 : Nat) : Rat) = (m : Rat) + 1 := by push_cast; rfl
    rw [c]
    grind
  have e : speedR row = prs (fun k => ((row.length - 1 : Nat) : Rat) * dl (px row) k) (fun k => ((row.length - 1 : Nat) : Rat) * dl (py row) k) (row.length - 1) := by unfold speedR; rw [if_neg (by omega)]
  unfold powersR
  rw [hl, prs_gp hk, (prs_px (show k + 1 < row.length by omega)).1, (prs_px (show k + 1 < row.length by omega)).2, key (px row) (px (speedR row)) fun a ha => by rw [e]; exact (prs_px ha).1, key (py row) (py (speedR row)) fun a ha => by rw [e]; exact (prs_px ha).2]
end C7
namespace C7
open PySem PySem.Spec PyProof.Rows L2
theorem av_globI {X : Cx} {ρ : Ro} {A : AH} {n : Str} {i : Int} {pos : Pos} (hg : Gl X n) (h : ∃ t, X.mg n = some (.int i t)) (hd : (n == ("__debug__" : Str)) = false := by decide) : AV X (.Name n pos) ρ A (.int i) := by
  obtain ⟨t, ht⟩ := h
  exact av_glob hg ht (v := .int i) ⟨t, rfl⟩ (fun _ => .int i) hd
theorem prs_succ (f g : Nat → Rat) (n : Nat) : prs f g (n + 1) = prs f g n ++ [(f n, g n)] := by unfold prs; rw [List.range_succ, List.map_append]; rfl
theorem rz_zero (n : Nat) (x : Nat → Rat) : rz n x 0 = x 0 := by
  unfold rz
  have : ((0 : Nat) : Rat) = 0 := rfl
  rw [this]
  grind
theorem rz_last {n : Nat} (x : Nat → Rat) (h : 0 < n) : rz n x n = x (n - 1) := by
  unfold rz
  have hn' : (n : Rat) ≠ 0 := by exact_mod_cast (show (n : Int) ≠ 0 by omega)
  grind
theorem on_rz {row : List Pt} {n i : Nat} : onWay (gp row (1 + i)) (gp row i) (((1 + (i : Int) : Int) : Rat) / (((n : Nat) : Int) : Rat)) = (rz n (px row) (i + 1), rz n (py row) (i + 1)) := by
  unfold onWay rz px py
  have c1 : ((1 + (i : Int) : Int) : Rat) = ((i + 1 : Nat) : Rat) := by push_cast; grind
  have c2 : (((n : Nat) : Int) : Rat) = (n : Rat) := by push_cast; rfl
  rw [c1, c2, Nat.add_sub_cancel, Nat.add_comm 1 i]
theorem Rw.raised {m : Nat} {row : List Pt} (h : Rw m row) (h0 : 0 < row.length) (hl : row.length ≤ 16) : Rw (m + 12) (raisedR row) := by
  obtain ⟨B, b0, b1, b2⟩ := h
  have hn : ((row.length : Nat) : Int).natAbs < 2 ^ 5 := by omega
  have hn' : (row.length : Rat) ≠ 0 := by exact_mod_cast (show (row.length : Int) ≠ 0 by omega)
  refine ⟨B * (row.length : Int), Int.mul_ne_zero b0 (by omega), bt_le (bt_mul b1 hn) (by omega), fun p hp => ?_⟩
  unfold raisedR prs at hp
  rw [List.mem_map] at hp
  obtain ⟨k, hk, rfl⟩ := hp
  have hk := List.mem_range.mp hk
  have key : ∀ x : Nat → Rat, (∀ a, a < row.length → Ov B m (x a)) → Ov (B * (row.length : Int)) (m + 12) (rz row.length x k) := by
    intro x hx
    by_cases hk0 : k = 0
    · rw [hk0, rz_zero]
      exact ((hx 0 h0).lift (by omega) hn).up (by omega)
    by_cases hkn : k = row.length
    · rw [hkn, rz_last x h0]
      exact ((hx _ (by omega)).lift (by omega) hn).up (by omega)
    have e : rz row.length x k = (x k * (((row.length : Int) - k : Int) : Rat) + x (k - 1) * ((k : Int) : Rat)) / (((row.length : Int) : Int) : Rat) := by
      unfold rz
      push_cast
      grind
    obtain ⟨N1, e1, n1⟩ := hx k (by omega)
    obtain ⟨N2, e2, n2⟩ := hx (k - 1) (by omega)
    refine ⟨N1 * ((row.length : Int) - k) + N2 * k, ?_, bt_le (bt_add (bt_mul n1 (show ((row.length : Int) - k).natAbs < 2 ^ 5 by omega)) (bt_mul n2 (show ((k : Nat) : Int).natAbs < 2 ^ 5 by omega))) (by omega)⟩
    have hB : (B : Rat) ≠ 0 := fun z => b0 (by exact_mod_cast z)
    rw [e, e1, e2]
    push_cast
    generalize (B : Rat) = b at *
    generalize (row.length : Rat) = l at *
    grind
  exact ⟨key (px row) fun a ha => (b2 _ (gp_mem ha)).1, key (py row) fun a ha => (b2 _ (gp_mem ha)).2⟩
end C7
namespace C7
open PySem PySem.Spec PyProof.Rows L2
def stepR (p q : Pt) : Pt := (q.1 - p.1, q.2 - p.2)
def difR (j : Nat) (row : List Pt) : List Pt := prs (dn j (px row)) (dn j (py row)) (row.length - j)
theorem difR_len (j : Nat) (row : List Pt) : (difR j row).length = row.length - j := prs_len _ _ _
theorem difR_zero (row : List Pt) : difR 0 row = row := prs_self row
theorem difR_step {j k : Nat} {row : List Pt} (h : k + 1 < row.length - j) : stepR (gp (difR j row) k) (gp (difR j row) (k + 1)) = (dn (j + 1) (px row) k, dn (j + 1) (py row) k) := by
  unfold difR
  rw [prs_gp (by omega), prs_gp h]
  rfl
theorem difR_succ (j : Nat) (row : List Pt) : (List.range ((difR j row).length - 1)).map (fun k => stepR (gp (difR j row) k) (gp (difR j row) (k + 1))) = difR (j + 1) row := by
  rw [difR_len]
  unfold difR
  refine (List.map_congr_left fun k hk => ?_).trans (show (List.range (row.length - j - 1)).map (fun k => (dn (j + 1) (px row) k, dn (j + 1) (py row) k)) = _ by rw [show row.length - j - 1 = row.length - (j + 1) by omega]; rfl)
  exact difR_step (by have := List.mem_range.mp hk; omega)
theorem ov_dn {B : Int} {m : Nat} {x : Nat → Rat} {n : Nat} (h : ∀ a, a < n → Ov B m (x a)) : ∀ k i, i + k < n → Ov B (m + k) (dn k x i) := by
  intro k
  induction k with
  | zero => intro i hi; exact h i hi
  | succ k ih => intro i hi; exact (ov_sub (ih (i + 1) (by omega)) (ih i (by omega))).up (by omega)
theorem Rw.dif {m : Nat} {row : List Pt} (h : Rw m row) (j : Nat) : Rw (m + j) (difR j row) := by
  obtain ⟨B, b0, b1, b2⟩ := h
  refine ⟨B, b0, bt_le b1 (by omega), fun p hp => ?_⟩
  unfold difR prs at hp
  rw [List.mem_map] at hp
  obtain ⟨k, hk, rfl⟩ := hp
  have hk := List.mem_range.mp hk
  exact ⟨ov_dn (n := row.length) (fun a ha => (b2 _ (gp_mem ha)).1) j k (by omega), ov_dn (n := row.length) (fun a ha => (b2 _ (gp_mem ha)).2) j k (by omega)⟩
/-- the first of each row of differences -/
def headsR (row : List Pt) : List Pt := prs (fun j => dn j (px row) 0) (fun j => dn j (py row) 0) row.length
theorem headsR_len (row : List Pt) : (headsR row).length = row.length := prs_len _ _ _
theorem headsR_get {row : List Pt} {j : Nat} (h : j < row.length) : headsR row = headsR row ∧ (headsR row).getD j (0, 0) = gp (difR j row) 0 := by
  refine ⟨rfl, ?_⟩
  unfold difR
  rw [prs_gp (by omega)]
  exact prs_gp h
end C7
namespace C7
open PySem PySem.Spec PyProof.Rows L2
def dueR (row : List Pt) : List Pt := if row.length = 1 then [(0, 0)] else prs (fun k => ((k : Rat) + 1) * px (powersR row) (k + 1)) (fun k => ((k : Rat) + 1) * py (powersR row) (k + 1)) (row.length - 1)
theorem pow_due {row : List Pt} (h : 0 < row.length) : powersR (speedR row) = dueR row := by
  by_cases h1 : row.length = 1
  · have e : speedR row = [(0, 0)] := by unfold speedR; rw [if_pos h1]
    have e2 : dueR row = [(0, 0)] := by unfold dueR; rw [if_pos h1]
    rw [e, e2]
    refine row_ext (by rw [powersR_len]) fun k hk => ?_
    rw [powersR_len] at hk
    have hk0 : k = 0 := by simp at hk; exact hk
    subst hk0
    unfold powersR
    rw [prs_gp (by decide)]
    show (((ch 0 0 : Nat) : Rat) * 0, ((ch 0 0 : Nat) : Rat) * 0) = (0, 0)
    refine Prod.ext ?_ ?_
    · show ((ch 0 0 : Nat) : Rat) * 0 = 0; grind
    · show ((ch 0 0 : Nat) : Rat) * 0 = 0; grind
  · have hl := speedR_len (show 1 < row.length by omega)
    have e2 : dueR row = prs (fun k => ((k : Rat) + 1) * px (powersR row) (k + 1)) (fun k => ((k : Rat) + 1) * py (powersR row) (k + 1)) (row.length - 1) := by unfold dueR; rw [if_neg h1]
    rw [e2]
    refine row_ext (by rw [powersR_len, hl, prs_len]) fun k hk => ?_
    rw [powersR_len, hl] at hk
    rw [pow_speed (by omega) hk, prs_gp hk]
theorem speed_pos {row : List Pt} (h : 0 < row.length) : 0 < (speedR row).length ∧ (speedR row).length ≤ row.length ∧ ((speedR row).length : Int) = (if (row.length : Int) - 1 > 1 then (row.length : Int) - 1 else 1) := by
  unfold speedR
  split
  · rename_i e; rw [if_neg (by omega)]; exact ⟨Nat.one_pos, by show 1 ≤ _; omega, rfl⟩
  · rw [prs_len]
    refine ⟨by omega, by omega, ?_⟩
    split <;> omega
theorem Rw.speed {m : Nat} {row : List Pt} (h : Rw m row) (h0 : 0 < row.length) (hl : row.length ≤ 16) : Rw (m + 6) (speedR row) := by
  by_cases h1 : row.length = 1
  · have e : speedR row = [(0, 0)] := by unfold speedR; rw [if_pos h1]
    rw [e]
    refine ⟨1, by decide, Nat.one_lt_two_pow (by omega), fun p hp => ?_⟩
    rw [List.mem_singleton.mp hp]
    have z : Ov 1 (m + 6) (0 : Rat) := ⟨0, by push_cast; grind, Nat.pow_pos (by decide)⟩
    exact ⟨z, z⟩
  · obtain ⟨B, b0, b1, b2⟩ := h
    refine ⟨B, b0, bt_le b1 (by omega), fun p hp => ?_⟩
    have e : speedR row = prs (fun k => ((row.length - 1 : Nat) : Rat) * dl (px row) k) (fun k => ((row.length - 1 : Nat) : Rat) * dl (py row) k) (row.length - 1) := by unfold speedR; rw [if_neg h1]
    rw [e] at hp
    unfold prs at hp
    rw [List.mem_map] at hp
    obtain ⟨k, hk, rfl⟩ := hp
    have hk := List.mem_range.mp hk
    have key : ∀ x : Nat → Rat, (∀ a, a < row.length → Ov B m (x a)) → Ov B (m + 6) (((row.length - 1 : Nat) : Rat) * dl x k) := by
      intro x hx
      obtain ⟨N, eN, hN⟩ := ov_sub (hx (k + 1) (by omega)) (hx k (by omega))
      refine ⟨((row.length - 1 : Nat) : Int) * N, ?_, bt_le (bt_mul (show (((row.length - 1 : Nat) : Int)).natAbs < 2 ^ 5 by omega) hN) (by omega)⟩
      have c : (((((row.length - 1 : Nat) : Int) * N : Int)) : Rat) = ((row.length - 1 : Nat) : Rat) * N := by push_cast; rfl
      show _ * (x (k + 1) - x k) = _
      rw [eN, c]
      grind
    exact ⟨key (px row) fun a ha => (b2 _ (gp_mem ha)).1, key (py row) fun a ha => (b2 _ (gp_mem ha)).2⟩
end C7
namespace C7
open PySem PySem.Spec PyProof.Rows L2
theorem Rw.powers {m l : Nat} {row : List Pt} (h : Rw m row) (hl : row.length ≤ l) : Rw (m + 2 * l + 1) (powersR row) := by
  obtain ⟨B, b0, b1, b2⟩ := h
  refine ⟨B, b0, bt_le b1 (by omega), fun p hp => ?_⟩
  unfold powersR prs at hp
  rw [List.mem_map] at hp
  obtain ⟨k, hk, rfl⟩ := hp
  have hk := List.mem_range.mp hk
  have key : ∀ x : Nat → Rat, (∀ a, a < row.length → Ov B m (x a)) → Ov B (m + 2 * l + 1) ((ch (row.length - 1) k : Rat) * dn k x 0) := by
    intro x hx
    obtain ⟨N, eN, hN⟩ := ov_dn (n := row.length) hx k 0 (by omega)
    have hc : ((ch (row.length - 1) k : Nat) : Int).natAbs < 2 ^ (l + 1) := by
      rw [Int.natAbs_natCast]
      exact Nat.lt_of_le_of_lt (ch_le _ _) (Nat.pow_lt_pow_right (by decide) (by omega))
    refine ⟨((ch (row.length - 1) k : Nat) : Int) * N, ?_, bt_le (bt_mul hc hN) (by omega)⟩
    have c : ((((ch (row.length - 1) k : Nat) : Int) * N : Int) : Rat) = (ch (row.length - 1) k : Rat) * N := by push_cast; rfl
    rw [eN, c]
    grind
  exact ⟨key (px row) fun a ha => (b2 _ (gp_mem ha)).1, key (py row) fun a ha => (b2 _ (gp_mem ha)).2⟩
end C7
namespace C7
open PySem PySem.Spec PyProof.Rows L2
/-- points, each times its share, summed -/
def sumR (row : List Pt) (ts : List Rat) : Nat → Pt
  | 0 => (0, 0)
  | i + 1 => ((sumR row ts i).1 + ts.getD i 0 * (row.getD i (0, 0)).1, (sumR row ts i).2 + ts.getD i 0 * (row.getD i (0, 0)).2)
theorem sumR_sumN (row : List Pt) (ts : List Rat) : ∀ n, sumR row ts n = (sumN (fun k => ts.getD k 0 * px row k) n, sumN (fun k => ts.getD k 0 * py row k) n)
  | 0 => rfl
  | n + 1 => by
    show ((sumR row ts n).1 + _, (sumR row ts n).2 + _) = _
    rw [sumR_sumN row ts n]
    rfl
theorem ov_sumN {B : Int} {m : Nat} {f : Nat → Rat} : ∀ n, (∀ k, k < n → Ov B m (f k)) → Ov B (m + n) (sumN f n)
  | 0, _ => ⟨0, by show (0 : Rat) = _; push_cast; grind, Nat.pow_pos (by decide)⟩
  | n + 1, h => (ov_add (ov_sumN n fun k hk => h k (by omega)) (h n (by omega))).up (by omega)
theorem Rw.sum {m n l : Nat} {row : List Pt} {ts : List Rat} (h : Rw m row) (ht : ∀ t ∈ ts, Sz n t) (hl : ts.length ≤ l) (hr : ts.length ≤ row.length) : ∀ i, i ≤ ts.length → SzP (m + (l + 1) * n + l + 2) (sumR row ts i) := by
  obtain ⟨B, b0, b1, b2⟩ := h
  have hD0 := dens_ne ts
  have hD := dens_bt (n := n) ts ht
  intro i hi
  have key : ∀ x : Nat → Rat, (∀ a, a < row.length → Ov B m (x a)) → Ov (B * dens ts) (m + (l + 1) * n + l + 2) (sumN (fun k => ts.getD k 0 * x k) i) := by
    intro x hx
    have e1 : ts.length * n ≤ l * n := Nat.mul_le_mul_right _ hl
    have e2 : (l + 1) * n = l * n + n := Nat.succ_mul _ _
    refine (ov_sumN (m := m + (n + (ts.length * n + 1))) i fun k hk => ?_).up (by omega)
    have hm : ts.getD k 0 ∈ ts := by rw [List.getD_eq_getElem?_getD, List.getElem?_eq_getElem (show k < ts.length by omega)]; exact List.getElem_mem _
    have := (ov_mul (ov_dvd (ht _ hm) (dens_dvd hm) hD0 hD) (hx k (by omega))).comm
    exact this.up (by omega)
  have hB : (B * dens ts).natAbs < 2 ^ (m + (l + 1) * n + l + 2) := by
    have e1 : ts.length * n ≤ l * n := Nat.mul_le_mul_right _ hl
    have e2 : (l + 1) * n = l * n + n := Nat.succ_mul _ _
    exact bt_le (bt_mul b1 hD) (by omega)
  rw [sumR_sumN]
  exact ⟨ov_sz (Int.mul_ne_zero b0 hD0) hB (key (px row) fun a ha => (b2 _ (gp_mem ha)).1), ov_sz (Int.mul_ne_zero b0 hD0) hB (key (py row) fun a ha => (b2 _ (gp_mem ha)).2)⟩
end C7
namespace C7
open PySem PySem.Spec PyProof.Rows L2
def partI (n k a : Nat) : Int := ((ch n k : Nat) : Int) * ((ch k a : Nat) : Int) * (1 - 2 * (((k : Int) - (a : Int)) % 2))
def partsR (n k j : Nat) : List Rat := (List.range j).map fun a => ((partI n k a : Int) : Rat)
theorem partsR_len (n k j : Nat) : (partsR n k j).length = j := by unfold partsR; simp
theorem partsR_get {n k j a : Nat} (h : a < j) : (partsR n k j).getD a 0 = ((partI n k a : Int) : Rat) := by
  unfold partsR
  rw [List.getD_eq_getElem?_getD, List.getElem?_map, List.getElem?_range h]
  rfl
theorem partI_bt {n k a : Nat} (hn : n ≤ 12) (hk : k ≤ 12) : (partI n k a).natAbs < 2 ^ 27 := by
  have h1 : ((ch n k : Nat) : Int).natAbs < 2 ^ 13 := by rw [Int.natAbs_natCast]; exact Nat.lt_of_le_of_lt (ch_le _ _) (Nat.pow_lt_pow_right (by decide) (by omega))
  have h2 : ((ch k a : Nat) : Int).natAbs < 2 ^ 13 := by rw [Int.natAbs_natCast]; exact Nat.lt_of_le_of_lt (ch_le _ _) (Nat.pow_lt_pow_right (by decide) (by omega))
  exact bt_mul (a := 26) (b := 1) (bt_mul h1 h2) (by omega)
theorem partI_eq {n k a : Nat} (h : a ≤ k) : ((partI n k a : Int) : Rat) = (ch n k : Rat) * ((ch k a : Rat) * sg (k - a)) := by
  have e : (((1 - 2 * (((k : Int) - (a : Int)) % 2) : Int)) : Rat) = sg (k - a) := by
    unfold sg
    rcases Nat.mod_two_eq_zero_or_one (k - a) with h2 | h2
    · rw [if_pos h2, show ((k : Int) - (a : Int)) % 2 = 0 by omega]; rfl
    · rw [if_neg (by omega), show ((k : Int) - (a : Int)) % 2 = 1 by omega]; rfl
  have c : ((partI n k a : Int) : Rat) = (ch n k : Rat) * (ch k a : Rat) * (((1 - 2 * (((k : Int) - (a : Int)) % 2) : Int)) : Rat) := by unfold partI; push_cast; rfl
  rw [c, e]
  grind
theorem sum_parts {row : List Pt} {n k : Nat} (hk : k < row.length) : sumR row (partsR n k (k + 1)) (partsR n k (k + 1)).length = ((ch n k : Rat) * dn k (px row) 0, (ch n k : Rat) * dn k (py row) 0) := by
  have key : ∀ x : Nat → Rat, sumN (fun a => (partsR n k (k + 1)).getD a 0 * x a) (k + 1) = (ch n k : Rat) * dn k x 0 := by
    intro x
    rw [dn_sum, ← sumN_mul]
    refine sumN_congr fun a ha => ?_
    rw [partsR_get ha, partI_eq (by omega), Nat.zero_add]
    grind
  rw [partsR_len, sumR_sumN, key, key]
def wsR (n k : Nat) : List Rat := (List.range (k + 1)).map fun a => (((ch k a : Nat) : Int) : Rat) / (((ch n a : Nat) : Int) : Rat)
theorem wsR_len (n k : Nat) : (wsR n k).length = k + 1 := by unfold wsR; simp
theorem wsR_get {n k a : Nat} (h : a < k + 1) : (wsR n k).getD a 0 = (ch k a : Rat) / (ch n a : Rat) := by
  unfold wsR
  rw [List.getD_eq_getElem?_getD, List.getElem?_map, List.getElem?_range h]
  show (((ch k a : Nat) : Int) : Rat) / (((ch n a : Nat) : Int) : Rat) = _
  push_cast
  rfl
theorem sum_ws (c : List Pt) (n k : Nat) : sumR c (wsR n k) (wsR n k).length = (Nw (fun a => px c a / (ch n a : Rat)) k, Nw (fun a => py c a / (ch n a : Rat)) k) := by
  have key : ∀ x : Nat → Rat, sumN (fun a => (wsR n k).getD a 0 * x a) (k + 1) = Nw (fun a => x a / (ch n a : Rat)) k := by
    intro x
    refine sumN_congr fun a ha => ?_
    rw [wsR_get ha]
    grind
  rw [wsR_len, sumR_sumN, key, key]
theorem ws_sz {n k : Nat} (hn : n ≤ 12) (hk : k ≤ n) : ∀ t ∈ wsR n k, Sz 14 t := fun t ht => by
  unfold wsR at ht
  rw [List.mem_map] at ht
  obtain ⟨a, ha, rfl⟩ := ht
  have ha := List.mem_range.mp ha
  have hp := ch_pos (n := n) (k := a) (by omega)
  refine sz_div (by omega) rfl ?_ ?_
  · rw [Int.natAbs_natCast]; exact Nat.lt_of_le_of_lt (ch_le _ _) (Nat.pow_lt_pow_right (by decide) (by omega))
  · rw [Int.natAbs_natCast]; exact Nat.lt_of_le_of_lt (ch_le _ _) (Nat.pow_lt_pow_right (by decide) (by omega))
theorem wy_get {n k : Nat} (h : k < n + 1) : ((List.range (n + 1)).map fun k => ((ch n k : Nat) : Int)).getD k 0 = ((ch n k : Nat) : Int) := by
  rw [List.getD_eq_getElem?_getD, List.getElem?_map, List.getElem?_range h]
  rfl
end C7
namespace C7
open PySem PySem.Spec PyProof.Rows L2
theorem cutL_init {β : Type} (xs : List β) (h : 0 < xs.length) : cutL xs none (some (-1)) = xs.take (xs.length - 1) := by
  unfold cutL
  rw [HT.sIx_none]
  have : HT.sIx xs.length xs.length (some (-1)) = xs.length - 1 := by
    unfold HT.sIx
    simp
    omega
  rw [this]
  simp
def loweredR (row : List Pt) : List Pt := ofPowR ((powersR row).take (row.length - 1))
theorem loweredR_len {row : List Pt} : (loweredR row).length = row.length - 1 := by unfold loweredR; rw [ofPowR_len, List.length_take, powersR_len]; omega
theorem lowered_raised {row : List Pt} (h : 0 < row.length) : loweredR (raisedR row) = row := by
  unfold loweredR
  rw [pow_raised h, raisedR_len, Nat.add_sub_cancel]
  have : (powersR row ++ [((0, 0) : Pt)]).take row.length = powersR row := by rw [List.take_append_of_le_length (by rw [powersR_len]; exact Nat.le_refl _), List.take_of_length_le (by rw [powersR_len]; exact Nat.le_refl _)]
  rw [this, of_pow]
theorem last_raised {row : List Pt} (h : 0 < row.length) : gp (powersR (raisedR row)) row.length = (0, 0) := by
  rw [pow_raised h]
  unfold gp
  rw [List.getD_eq_getElem?_getD, List.getElem?_append_right (by rw [powersR_len]; exact Nat.le_refl _), powersR_len]
  simp
theorem raised_lowered {row : List Pt} (h : 1 < row.length) (h0 : gp (powersR row) (row.length - 1) = (0, 0)) : raisedR (loweredR row) = row := by
  rw [raised_pow (by rw [loweredR_len]; omega)]
  unfold loweredR
  rw [pow_of]
  have e : (powersR row).take (row.length - 1) ++ [((0, 0) : Pt)] = powersR row := by
    refine row_ext (by rw [List.length_append, List.length_take, powersR_len]; simp; omega) fun k hk => ?_
    rw [List.length_append, List.length_take, powersR_len] at hk
    simp at hk
    by_cases hlt : k < row.length - 1
    · unfold gp
      rw [List.getD_eq_getElem?_getD, List.getD_eq_getElem?_getD, List.getElem?_append_left (by rw [List.length_take, powersR_len]; omega), List.getElem?_take_of_lt hlt]
    · rw [show k = row.length - 1 by omega, h0]
      unfold gp
      rw [List.getD_eq_getElem?_getD, List.getElem?_append_right (by rw [List.length_take, powersR_len]; omega), List.length_take, powersR_len, show row.length - 1 - min (row.length - 1) row.length = 0 by omega]
      rfl
  rw [e, of_pow]
def rIter (row : List Pt) : Nat → List Pt
  | 0 => row
  | j + 1 => raisedR (rIter row j)
theorem rIter_len (row : List Pt) : ∀ j, (rIter row j).length = row.length + j
  | 0 => rfl
  | j + 1 => by show (raisedR (rIter row j)).length = _; rw [raisedR_len, rIter_len row j]; omega
theorem Rw.rIter {m : Nat} {row : List Pt} (h : Rw m row) (h0 : 0 < row.length) : ∀ j, row.length + j ≤ 13 → Rw (m + 12 * j) (C7.rIter row j)
  | 0, _ => h
  | j + 1, hj => ((Rw.rIter h h0 j (by omega)).raised (by rw [rIter_len]; omega) (by rw [rIter_len]; omega)).up (by omega)
end C7
namespace C7
open PySem PySem.Spec PyProof.Rows L2
theorem wk_down (K : Frag) (H0 : Hp) (lo : Int) (n : Nat) : Wk K H0 (Itc lo (-1) n) (fun _ => True) n (fun i => .int (lo - (i : Int))) where
  go := fun i H A h _ _ _ => h
  yl := fun i H A x H' h _ r _ y => by
    obtain ⟨rfl, rfl⟩ := y
    refine ⟨TS.refl _, r, ?_⟩
    rw [show lo + (i : Nat) * (-1 : Int) = lo - (i : Int) by omega]
    exact .int _
  st := fun H A _ _ _ => Nat.le_refl n
theorem ai_down {X : Cx} {ρ : Ro} {A : AH} {a b c tg : Expr} {p0 pos : Pos} {i j : Int} {kI : AH → (AH → Prop) → Nat → (Nat → D) → Prop} (hg : Gl X "range") (hm : X.mg "range" = none) (h : AVs X [a, b, c] ρ A [.int i, .int j, .int (-1)])
    (h1 : -(2 ^ 62) ≤ i) (h2 : i < 2 ^ 62) (h3 : -(2 ^ 62) ≤ j) (h4 : j < 2 ^ 62) (q : kI A (fun _ => True) (i - j).toNat (fun m => .int (i - (m : Int)))) (hs : isStar a = false := by rfl) (hpl : (backTo pos (starEach [b, c] X.env)).any (·.1) = false := by rfl) :
    AI X tg (.Call (.Name "range" p0) [a, b, c] [] pos) ρ A kI := fun σ H s R qq =>
  tmi_of (pi_range3 hg hm (pa_tm [a, b, c]) (star_cons hs) hpl) (h σ H s _ fun vs H1 t1 r1 l1 => by
    cases r1 with
    | cons r1 r =>
      cases r with
      | cons r2 r =>
        cases r with
        | cons r3 r =>
          cases r
          rw [r1.int_of, r2.int_of, r3.int_of]
          exact ⟨i, j, -1, _, rfl, RgC.neg h1 h2 h3 h4, qq _ H1 A _ _ _ t1 l1 (wk_down X.K H1 i (i - j).toNat) q⟩)
end C7
namespace C7
open PySem PySem.Spec PyProof.Rows L2
/-- one seat moved by a share along an axis -/
theorem Rw.setOne {m n : Nat} {row : List Pt} {i : Nat} {z : Pt} {mo : Rat} (h : Rw m row) (hz : Sz n mo) (hq : ∃ (p : Pt) (a b : Rat), p ∈ row ∧ (a = 0 ∨ a = mo) ∧ (b = 0 ∨ b = mo) ∧ z = (p.1 + a, p.2 + b)) : Rw (m + n + 1) (row.set i z) := by
  obtain ⟨B, b0, b1, b2⟩ := h
  obtain ⟨p, a, b, hp, ha, hb, rfl⟩ := hq
  have hd := den_pos mo
  refine ⟨B * (mo.den : Int), Int.mul_ne_zero b0 (by omega), bt_le (bt_mul b1 hz.den) (by omega), fun q hq => ?_⟩
  have l : ∀ q ∈ row, OvP (B * (mo.den : Int)) (m + n) q := fun q hq => (b2 q hq).lift (by omega) hz.den
  have om : Ov (B * (mo.den : Int)) (m + n) mo := by
    have : Ov (mo.den : Int) n mo := ⟨mo.num, by have := rat_eq mo; push_cast; exact this, hz.num⟩
    exact ((this.lift b0 b1).comm).up (by omega)
  have oz : Ov (B * (mo.den : Int)) (m + n) (0 : Rat) := ⟨0, by push_cast; grind, Nat.pow_pos (by decide)⟩
  have oa : Ov (B * (mo.den : Int)) (m + n) a := ha.elim (fun e => e ▸ oz) fun e => e ▸ om
  have ob : Ov (B * (mo.den : Int)) (m + n) b := hb.elim (fun e => e ▸ oz) fun e => e ▸ om
  rcases List.mem_or_eq_of_mem_set hq with h | h
  · exact (l q h).up (by omega)
  · rw [h]
    exact ⟨(ov_add (l p hp).1 oa).up (by omega), (ov_add (l p hp).2 ob).up (by omega)⟩
end C7
namespace C7
open PySem PySem.Spec PyProof.Rows L2
/-! ### sets of pairs of whole numbers, sorted -/
def leP (p q : Int × Int) : Bool := decide (p.1 < q.1 ∨ (p.1 = q.1 ∧ p.2 ≤ q.2))
abbrev pairOf (b : Addr × List Int) : Int × Int := (b.2.getD 0 0, b.2.getD 1 0)
theorem refs_back {M : List (Addr × List Int)} : ∀ ws : List Value, (∀ u ∈ ws, ∃ z ∈ M, u = Value.ref z.1) → ∃ N : List (Addr × List Int), (∀ z ∈ N, z ∈ M) ∧ ws = N.map fun z => Value.ref z.1
  | [], _ => ⟨[], fun _ h => (nomatch h), rfl⟩
  | u :: ws, h => by
    obtain ⟨N, n1, n2⟩ := refs_back ws fun v hv => h v (List.mem_cons_of_mem _ hv)
    obtain ⟨z, z1, z2⟩ := h u List.mem_cons_self
    refine ⟨z :: N, fun y hy => ?_, by rw [n2, z2]; rfl⟩
    cases hy with
    | head => exact z1
    | tail _ hy => exact n1 y hy
theorem each_refs {M : List (Addr × List Int)} : ∀ {N : List (Addr × List Int)} {ws : List Value}, PySem.W.EachIs (fun (v : Value) (b : Addr × List Int) => v = Value.ref b.1) ws N → ws = N.map fun z => Value.ref z.1
  | _, _, .nil => rfl
  | _, _, .cons h t => by rw [h, each_refs (M := M) t]; rfl
theorem refs_each {R : Value → (Addr × List Int) → Prop} : ∀ N : List (Addr × List Int), (∀ z ∈ N, R (Value.ref z.1) z) → PySem.W.EachIs R (N.map fun z => Value.ref z.1) N
  | [], _ => .nil
  | z :: N, h => .cons (h z List.mem_cons_self) (refs_each N fun y hy => h y (List.mem_cons_of_mem _ hy))
section
variable {P : Program} {w : World} {A : Around} {E : Value → Shared → Prop} {s : Shared}
theorem sorted_setP {a : Addr} {M : List (Addr × List Int)} {es : Array (Int × Value)} {ep : Nat} {tb : SetTable} {Q : Value → Shared → Prop} (R : SetTR P w s.heap a M es ep tb) (hh : A.handled = none) (hu : A.units + 10 < cLine)
    (h2 : ∀ z ∈ M, ∃ x y, z.2 = [x, y])
    (hQ : ∀ s' p (out : Array Value) (c : Nat), (∀ b o, s.heap.get? b = some o → s'.heap.get? b = some o) ∧ s'.gens = s.gens ∧ s'.os = s.os ∧ s.heap.objs.size ≤ p ∧ s'.heap.get? p = some (seqObj "list" out c) →
      ∀ N : List (Addr × List Int), out.toList = N.map (fun z => Value.ref z.1) → N.Perm M → N.Pairwise (fun x y => leP (pairOf x) (pairOf y) = true) → Q (.ref p) s') : wpAny (model P w) A (call (.builtin "sorted") [.ref a]) Q E s := by
  obtain ⟨ob, hob, hex, hdt⟩ := R.ob
  have few := R.few
  have sz := R.size
  refine Calls.call_function_entry kind_sorted plain_sorted entry_sorted (args_sorted1 _) ?_
  show wpAny _ _ (Builtin.«sorted» _) _ _ _
  unfold Builtin.«sorted»
  refine wpAny_bind (m := checkCount "sorted" 1 1 _) (wpAny_pure (wpAny_bind (collect_set (A := A.in1) hh ⟨ob, hob, hex.1, hdt⟩ R.fits (by unfold scanBound; omega) R.tab.ris R.led fun s1 vs k1 hz g1 o1 pm => ?_)))
  have hes : es.toList.map (·.2) = M.map fun z => Value.ref z.1 := by rw [R.rows]; unfold rowsOf; rw [List.map_map]; rfl
  rw [hes] at pm
  have uniq : ∀ x ∈ M, ∀ y ∈ M, x.1 = y.1 → x = y := fun x hx y hy e => by
    have u1 := R.tup x hx
    rw [e] at u1
    exact Prod.ext e (u1.inj (R.tup y hy))
  obtain ⟨N, n1, n2⟩ := refs_back (M := M) vs fun v hv => by
    obtain ⟨z, hz, e⟩ := List.mem_map.mp (pm.mem_iff.mp hv)
    exact ⟨z, hz, e.symm⟩
  have nM : M.Nodup := nodup_of_map R.nd
  have nR : (M.map fun z => Value.ref z.1).Nodup := List.pairwise_map.mpr (List.Pairwise.imp_of_mem (fun {x y} hx hy ne e => by
    injection e with e
    exact ne (uniq x hx y hy e)) nM)
  have nN : N.Nodup := nodup_of_map (f := fun z => Value.ref z.1) (by rw [← n2]; exact pm.nodup_iff.mpr nR)
  have pN : N.Perm M := (List.perm_ext_iff_of_nodup nN nM).mpr fun z => ⟨n1 z, fun hz => by
    have m1 : Value.ref z.1 ∈ vs := pm.mem_iff.mpr (List.mem_map.mpr ⟨z, hz, rfl⟩)
    rw [n2] at m1
    obtain ⟨y, hy, e⟩ := List.mem_map.mp m1
    injection e with e
    rw [← uniq y (n1 y hy) z hz e]
    exact hy⟩
  have nl : N.length = M.length := pN.length_eq
  have vl : vs.length < 64 := by rw [n2, List.length_map]; omega
  refine wpAny_bind (wpAny_newList ?_ (by rw [sizeLine_eq]; omega))
  have hL : (s1.heap.push (seqObj "list" vs.toArray 0)).get? s1.heap.objs.size = some (seqObj "list" vs.toArray 0) := Heap.get?_push_size _ rfl
  have rd : ∀ z ∈ N, ∃ as, Reads (s1.heap.push (seqObj "list" vs.toArray 0)) (Value.ref z.1) (.tuple [.int (z.2.getD 0 0), .int (z.2.getD 1 0)]) as ∧ s1.heap.objs.size ∉ as := fun z hz => by
    obtain ⟨o, its, n, ho, hc, hd, hi⟩ := R.tup z (n1 z hz)
    obtain ⟨x, y, e⟩ := h2 z (n1 z hz)
    have hi' := ints_of_items hi
    rw [e] at hi' ⊢
    refine ⟨[], .tuple (Heap.get?_push_of_some _ (k1 _ _ ho)) hc hd ?_, fun z => nomatch z⟩
    generalize its.toList = us at hi'
    cases hi' with
    | cons p t hi2 =>
      cases hi2 with
      | cons q u hi3 =>
        cases hi3
        exact .cons (.int _ _) (.cons (.int _ _) .nil)
  refine wpAny_bind (wpAny_holding (PySem.W.list_sort_data (s := { s1 with heap := s1.heap.push (seqObj "list" vs.toArray 0) }) (bs := N) (R := fun (v : Value) (b : Addr × List Int) => v = Value.ref b.1) (enc := fun b => .tuple [.int (b.2.getD 0 0), .int (b.2.getD 1 0)]) hL (by rw [n2]; exact refs_each N fun z _ => rfl) (by rw [n2] at rd ⊢; exact refs_each N rd) ?_ ?_ (by rw [sizeLine_eq]; omega) ?_ fun out ol oe => ?_))
  · intro d1 hd1 d2 hd2
    obtain ⟨x, _, rfl⟩ := List.mem_map.mp hd1
    obtain ⟨y, _, rfl⟩ := List.mem_map.mp hd2
    rfl
  · refine .inl fun d hd => ?_
    obtain ⟨x, _, rfl⟩ := List.mem_map.mp hd
    exact ⟨_, _, rfl⟩
  · intro b _
    show _ + 1 + PyData.depth (.tuple [.int _, .int _]) < cLine
    have : PyData.depth (.tuple [.int (b.2.getD 0 0), .int (b.2.getD 1 0)]) ≤ 1 := by simp [PyData.depth, PyData.depthAll]
    have : A.in1.units ≤ A.units + 1 := by first | exact Nat.le_refl _ | (show _ ≤ _; simp [Around.in1]) | omega
    omega
  obtain ⟨c, hc⟩ := sortedHeap_at (vs := vs) (out := out.toArray) hL
  have eo := each_refs (M := M) oe
  refine wpAny_pure ⟨_, rfl, hQ _ s1.heap.objs.size out.toArray c ⟨fun b u e => ?_, g1, o1, hz, hc⟩ _ (by rw [List.toList_toArray]; exact eo) ((List.mergeSort_perm _ _).trans pN) ?_⟩
  · have q := k1 b u e
    have lt := Heap.lt_size q
    refine (sortedHeap_old (Nat.ne_of_lt lt) ?_).trans (Heap.get?_push_of_some _ q)
    rw [size_push']
    exact Nat.lt_succ_of_lt lt
  · have le : PySem.W.dataLe false (fun b : Addr × List Int => PyData.tuple [.int (b.2.getD 0 0), .int (b.2.getD 1 0)]) = fun x y => leP (pairOf x) (pairOf y) := PySem.W.dataLe_ii (fun b : Addr × List Int => b.2.getD 0 0) (fun b => b.2.getD 1 0)
    rw [le]
    refine List.pairwise_mergeSort (fun x y z h1 h2 => ?_) (fun x y => ?_) N
    · unfold leP at h1 h2 ⊢
      simp only [decide_eq_true_eq] at h1 h2 ⊢
      omega
    · unfold leP
      simp only [Bool.or_eq_true, decide_eq_true_eq]
      omega
end
/-! the sorted list without repeats -/
def ltP (p q : Int × Int) : Bool := decide (p.1 < q.1 ∨ (p.1 = q.1 ∧ p.2 < q.2))
theorem ltP_iff {p q : Int × Int} : ltP p q = true ↔ (p.1 < q.1 ∨ (p.1 = q.1 ∧ p.2 < q.2)) := by unfold ltP; rw [decide_eq_true_eq]
theorem leP_iff {p q : Int × Int} : leP p q = true ↔ (p.1 < q.1 ∨ (p.1 = q.1 ∧ p.2 ≤ q.2)) := by unfold leP; rw [decide_eq_true_eq]
def insP (z : Int × Int) : List (Int × Int) → List (Int × Int)
  | [] => [z]
  | y :: r => if ltP z y then z :: y :: r else if z = y then y :: r else y :: insP z r
def srtP (zs : List (Int × Int)) : List (Int × Int) := zs.foldr insP []
theorem mem_insP {z y : Int × Int} : ∀ {l : List (Int × Int)}, y ∈ insP z l ↔ y = z ∨ y ∈ l
  | [] => by simp [insP]
  | u :: r => by
    unfold insP
    split
    · simp
    · split
      · rename_i e
        subst e
        simp
      · rw [List.mem_cons, mem_insP (l := r), List.mem_cons]
        constructor
        · rintro (h | h | h)
          · exact .inr (.inl h)
          · exact .inl h
          · exact .inr (.inr h)
        · rintro (h | h | h)
          · exact .inr (.inl h)
          · exact .inl h
          · exact .inr (.inr h)
theorem mem_srtP {y : Int × Int} : ∀ {zs : List (Int × Int)}, y ∈ srtP zs ↔ y ∈ zs
  | [] => Iff.rfl
  | z :: zs => by
    show y ∈ insP z (srtP zs) ↔ _
    rw [mem_insP, mem_srtP (zs := zs), List.mem_cons]
theorem ltP_trans {p q r : Int × Int} (h : ltP p q = true) (h' : ltP q r = true) : ltP p r = true := by rw [ltP_iff] at *; omega
theorem sorted_insP {z : Int × Int} : ∀ {l : List (Int × Int)}, l.Pairwise (fun p q => ltP p q = true) → (insP z l).Pairwise (fun p q => ltP p q = true)
  | [], _ => List.pairwise_singleton _ _
  | u :: r, h => by
    unfold insP
    rw [List.pairwise_cons] at h
    split
    · rename_i e
      refine List.pairwise_cons.mpr ⟨fun y hy => ?_, List.pairwise_cons.mpr h⟩
      rcases List.mem_cons.mp hy with f | f
      · rw [f]; exact e
      · exact ltP_trans e (h.1 y f)
    · split
      · exact List.pairwise_cons.mpr h
      · rename_i e f
        refine List.pairwise_cons.mpr ⟨fun y hy => ?_, sorted_insP h.2⟩
        rcases mem_insP.mp hy with g | g
        · rw [g]
          rw [ltP_iff] at *
          have : ¬ (z.1 = u.1 ∧ z.2 = u.2) := fun q => f (Prod.ext q.1 q.2)
          omega
        · exact h.1 y g
theorem sorted_srtP : ∀ zs : List (Int × Int), (srtP zs).Pairwise (fun p q => ltP p q = true)
  | [] => .nil
  | z :: zs => sorted_insP (sorted_srtP zs)
theorem srt_one : ∀ {xs ys : List (Int × Int)}, xs.Pairwise (fun p q => ltP p q = true) → ys.Pairwise (fun p q => ltP p q = true) → (∀ z, z ∈ xs ↔ z ∈ ys) → xs = ys
  | [], [], _, _, _ => rfl
  | [], y :: ys, _, _, h => nomatch (h y).mpr List.mem_cons_self
  | x :: xs, [], _, _, h => nomatch (h x).mp List.mem_cons_self
  | x :: xs, y :: ys, hx, hy, h => by
    rw [List.pairwise_cons] at hx hy
    have e : x = y := by
      rcases List.mem_cons.mp ((h x).mp List.mem_cons_self) with e | e
      · exact e
      · rcases List.mem_cons.mp ((h y).mpr List.mem_cons_self) with f | f
        · exact f.symm
        · have a := hy.1 x e
          have b := hx.1 y f
          rw [ltP_iff] at a b
          omega
    subst e
    have irr : ∀ z, ltP z z = true → False := fun z q => by rw [ltP_iff] at q; omega
    rw [srt_one hx.2 hy.2 fun z => ⟨fun q => ?_, fun q => ?_⟩]
    · rcases List.mem_cons.mp ((h z).mp (List.mem_cons_of_mem _ q)) with f | f
      · subst f; exact absurd (hx.1 z q) (irr z)
      · exact f
    · rcases List.mem_cons.mp ((h z).mpr (List.mem_cons_of_mem _ q)) with f | f
      · subst f; exact absurd (hy.1 z q) (irr z)
      · exact f
theorem srtP_len : ∀ zs : List (Int × Int), (srtP zs).length ≤ zs.length
  | [] => Nat.le_refl _
  | z :: zs => by
    have k : ∀ l : List (Int × Int), (insP z l).length ≤ l.length + 1 := by
      intro l
      induction l with
      | nil => exact Nat.le_refl _
      | cons u r ih =>
        unfold insP
        split
        · exact Nat.le_refl _
        · split
          · exact Nat.le_succ _
          · show (insP z r).length + 1 ≤ r.length + 1 + 1; omega
    have := srtP_len zs
    have := k (srtP zs)
    show (insP z (srtP zs)).length ≤ zs.length + 1
    omega
abbrev ipp (z : Int × Int) : D := .tup [.int z.1, .int z.2]
section
variable {X : Cx}
def rSrtSet (K : Frag) (P : Program) (w : World) : List V → Hp → VK → Prop := fun vs H Q => ∃ (a : Addr) (M : List (Addr × List Int)), vs = [V.ref a] ∧ H a = some (SetTO P w a M) ∧ (∀ z ∈ M, SqT K H z.1 (z.2.map V.int)) ∧ (∀ z ∈ M, ∃ x y, z.2 = [x, y]) ∧
  ∀ (N : List (Addr × List Int)) (p : Addr), N.Perm M → (N.map (·.2)).Nodup → N.Pairwise (fun x y => leP (pairOf x) (pairOf y) = true) → H p = none → Q (.ref p) (upd H p (.lst (N.map fun z => V.ref z.1)))
theorem cr_srtSet (hc : X.calm = true) (hu : X.A.units + 64 < cLine) : CallR X (.builtin "sorted") (rSrtSet X.K X.prog X.w) := by
  intro pins s σ H vs us Q I r h
  obtain ⟨a, M, rfl, ha, hk, h2, q⟩ := h
  have R0 : SetT0 X.prog X.w s.heap a M := (I.hok a _ ha).1
  obtain ⟨es, ep, tb, R⟩ := R0.full fun p hp => I.isT (hk p hp)
  rw [Vals.ref1 r]
  refine sorted_setP R (I.ok.hd hc) (by omega) h2 fun s' p out c ⟨k, g, o, hp, hg⟩ N hout pm pw => ?_
  have few := R.few
  have hlen : (N.map fun z => V.ref z.1).length ≤ sizeLine := by rw [List.length_map, pm.length_eq, sizeLine_eq]; omega
  have hv : Vals (N.map fun z => V.ref z.1) out.toList := by rw [hout]; exact vals_of_refs N
  have hn : H p = none := I.hok.fresh hp
  have e : s' = { s with heap := s'.heap, gens := s'.gens, drawn := s'.drawn, toks := s'.toks } := by
    obtain ⟨_, _, _, _, _⟩ := s'
    obtain ⟨_, _, _, _, _⟩ := s
    cases o
    rfl
  rw [e]
  have ob : ObjOk X.prog X.w (upd H p (.lst (N.map fun z => V.ref z.1))) s'.heap p (.lst (N.map fun z => V.ref z.1)) := ⟨hlen, out.toList, c, hv, hg⟩
  exact ⟨.ref p, _, I.call (ch := []) (Un.laid k hp hn) (I.hok.laid k hp ob) (by rw [g]; exact I.bare) (fun _ z => nomatch z), rfl, q N p pm ((pm.map (·.2)).nodup_iff.mpr R.nd) pw hn⟩
end
/-- pairs in a list: where they stand -/
theorem pairs_at {K : Frag} {H : Hp} : ∀ {vs : List V} {zs : List (Int × Int)}, Rps K H vs (zs.map ipp) → ∃ ks : List (Addr × List Int), (vs = ks.map fun z => V.ref z.1) ∧ (∀ z ∈ ks, SqT K H z.1 (z.2.map V.int)) ∧ ks.map (·.2) = zs.map (fun z => [z.1, z.2])
  | [], [], .nil => ⟨[], rfl, fun _ h => (nomatch h), rfl⟩
  | v :: vs, z :: zs, .cons h t => by
    obtain ⟨ks, k1, k2, k3⟩ := pairs_at t
    obtain ⟨a, ws, e, hs, hr⟩ := h.tup_of
    cases hr with
    | cons h1 hr =>
      cases hr with
      | cons h2 hr =>
        cases hr
        rw [h1.int_of, h2.int_of] at hs
        refine ⟨(a, [z.1, z.2]) :: ks, by rw [k1, e]; rfl, fun y hy => ?_, by rw [List.map_cons, k3]; rfl⟩
        rcases List.mem_cons.mp hy with f | f
        · rw [f]; exact hs
        · exact k2 y f
theorem pairs_rp {K : Frag} {H : Hp} : ∀ N : List (Addr × List Int), (∀ z ∈ N, SqT K H z.1 (z.2.map V.int) ∧ ∃ x y, z.2 = [x, y]) → Rps K H (N.map fun z => V.ref z.1) ((N.map pairOf).map ipp)
  | [], _ => .nil
  | z :: N, h => by
    obtain ⟨h1, x, y, e⟩ := h z List.mem_cons_self
    refine .cons ?_ (pairs_rp N fun u hu => h u (List.mem_cons_of_mem _ hu))
    show Rp K H (.ref z.1) (.tup [.int (z.2.getD 0 0), .int (z.2.getD 1 0)])
    rw [e] at h1 ⊢
    exact .tup h1 (.cons (.int _) (.cons (.int _) .nil))
section
variable {X : Cx} {ρ : Ro} {A : AH} {a : Expr} {x : D} {zs : List (Int × Int)} {p0 p2 pos pos2 : Pos} {lv : Nat}
theorem al_sortedSet (hr : Room lv X.A) (hc : X.calm = true) (hg : Gl X "sorted") (hg2 : Gl X "set") (hm : X.mg "sorted" = none) (hm2 : X.mg "set" = none) (h : AV X a ρ A x) (hl : IsL A x (zs.map ipp)) (h64 : zs.length < 64)
    (hs : starEach [a] X.env = [(false, eval a X.env)] := by rfl) : AL X (.Call (.Name "sorted" p0) [.Call (.Name "set" p2) [a] [] pos2] [] pos) ρ A ((srtP zs).map ipp) := fun k q σ H s Q qq =>
  tm_of (pe_callB (cr_srtSet hc hr.units) hg hm (by decide +kernel) (pa_cons (pe_callTy (cr_setOfT hc hr.units) hg2 hm2 (by decide +kernel) (pa_cons (pe_tm a) pa_nil hs) (he := hs) (hpl := rfl)) pa_nil rfl) (he := rfl) (hpl := rfl)) (h σ H s _ fun v H1 t1 r1 l1 => by
    obtain ⟨b, vs, rfl, b1, b2⟩ := hl.sq r1 l1
    obtain ⟨ks, rfl, k2, k3⟩ := pairs_at b2
    refine ⟨b, ks, rfl, b1, k2, by rw [← List.length_map (f := (·.2)), k3, List.length_map]; exact h64, fun c M hc0 m1 m2 => ?_⟩
    have tS : TS H1 (upd H1 c (SetTO X.prog X.w c M)) := TS.new hc0
    have two : ∀ z ∈ ks, ∃ x y, z.2 = [x, y] := fun z hz => by
      have : z.2 ∈ zs.map (fun z => [z.1, z.2]) := by rw [← k3]; exact List.mem_map.mpr ⟨z, hz, rfl⟩
      obtain ⟨u, _, e⟩ := List.mem_map.mp this
      exact ⟨u.1, u.2, e.symm⟩
    refine ⟨c, M, rfl, upd_same, fun z hz => tS.sq (k2 z (m1 z hz)), fun z hz => two z (m1 z hz), fun N p pm nd pw hp => ?_⟩
    have hN : ∀ z ∈ N, SqT X.K (upd H1 c (SetTO X.prog X.w c M)) z.1 (z.2.map V.int) ∧ ∃ x y, z.2 = [x, y] := fun z hz => ⟨tS.sq (k2 z (m1 z (pm.mem_iff.mp hz))), two z (m1 z (pm.mem_iff.mp hz))⟩
    have e : N.map pairOf = srtP zs := by
      refine srt_one ?_ (sorted_srtP zs) fun z => ?_
      · rw [List.pairwise_map]
        refine List.Pairwise.imp_of_mem (fun {x y} hx hy h => ?_) (List.Pairwise.and pw (List.pairwise_map.mp nd))
        obtain ⟨_, x1, x2, ex⟩ := hN x hx
        obtain ⟨_, y1, y2, ey⟩ := hN y hy
        have h1 := h.1
        have h2 := h.2
        unfold pairOf at h1 ⊢
        rw [leP_iff] at h1
        rw [ltP_iff]
        rw [ex, ey] at h1 h2 ⊢
        have h1 : x1 < y1 ∨ (x1 = y1 ∧ x2 ≤ y2) := h1
        show x1 < y1 ∨ (x1 = y1 ∧ x2 < y2)
        have : ¬ (x1 = y1 ∧ x2 = y2) := fun q => h2 (by rw [q.1, q.2])
        omega
      · rw [mem_srtP, List.mem_map]
        constructor
        · rintro ⟨u, hu, rfl⟩
          have : u.2 ∈ zs.map (fun z => [z.1, z.2]) := by rw [← k3]; exact List.mem_map.mpr ⟨u, m1 u (pm.mem_iff.mp hu), rfl⟩
          obtain ⟨y, hy, e⟩ := List.mem_map.mp this
          unfold pairOf
          rw [← e]
          exact hy
        · intro hz
          have : [z.1, z.2] ∈ ks.map (·.2) := by rw [k3]; exact List.mem_map.mpr ⟨z, hz, rfl⟩
          obtain ⟨u, hu, e⟩ := List.mem_map.mp this
          obtain ⟨y, hy, ey⟩ := List.mem_map.mp (m2 u hu)
          refine ⟨y, pm.mem_iff.mpr hy, ?_⟩
          unfold pairOf
          rw [show y.2 = u.2 from ey, show u.2 = [z.1, z.2] from e]
          rfl
    have nl := (l1.newAny (u := SetTO X.prog X.w c M) hc0).newL hp (pairs_rp N hN)
    rw [e] at nl
    have hA : A p = none := (l1.newAny (u := SetTO X.prog X.w c M) hc0).none hp
    exact qq _ _ _ _ (t1.trans (tS.trans nl.1)) (.ref p) nl.2 (q p hA))
theorem av_sortedSet (hr : Room lv X.A) (hc : X.calm = true) (hg : Gl X "sorted") (hg2 : Gl X "set") (hm : X.mg "sorted" = none) (hm2 : X.mg "set" = none) (h : AV X a ρ A x) (hl : IsL A x (zs.map ipp)) (h64 : zs.length < 64)
    (hs : starEach [a] X.env = [(false, eval a X.env)] := by rfl) : AV X (.Call (.Name "sorted" p0) [.Call (.Name "set" p2) [a] [] pos2] [] pos) ρ A (.fz ((srtP zs).map ipp)) := (al_sortedSet hr hc hg hg2 hm hm2 h hl h64 hs).av
end
section
variable {X : Cx} {ρ ρ' : Ro} {es : List Expr} {pos : Pos} {ds : List D}
/-- a, b = a list -/
theorem ag_fz {is : List Nat} {kk : Nat} (hc : X.calm = true) (h : AGs X es is ρ ds ρ') (hn : (assignEach es X.env).length = ds.length := by rfl) (hst : (assignEach es X.env).findIdx? (·.1) = none := by rfl) : AG X (.Tuple es kk pos) is ρ (.fz ds) ρ' := fun v σ H A s r Q q => by
  obtain ⟨p, o, vs, rfl, h1, h2⟩ := r.fz_of
  exact tmg_of (pg_unl hc (pgs_tm es) hn hst) ⟨p, vs, rfl, (show SqC X.K H p vs from .inl ⟨o, h1⟩).sq, h2.length, h vs σ H A s h2 Q q⟩
end
end C7
namespace C7
open PySem PySem.Spec PyProof.Rows L2
/-! ### dicts whose keys are tuples -/
section
variable {X : Cx} {pins : List (Addr × Obj)} {σ : L2.St} {H : Hp} {s : Shared}
mutual
theorem key_ok (I : Inv X pins σ H s) : ∀ {v : V} {d : D}, Rp X.K H v d → ∀ {k : NestedKey} {u : Value}, keyD d = some k → RelV v u → NestedIs s.heap k u
  | _, _, .int i, k, u, h, r => by
    have h : some (NestedKey.num i) = some k := h
    cases h
    obtain ⟨t, rfl⟩ := r
    exact .int i t
  | _, _, .str x, k, u, h, r => by
    have h : some (NestedKey.text x) = some k := h
    cases h
    obtain ⟨t, rfl⟩ := r
    exact .text x t
  | _, _, .tup (ds := ds) h1 h2, k, u, h, r => by
    obtain ⟨its, rv, ⟨o, ho, hc, n, hd⟩, _⟩ := I.tuple h1
    unfold keyD at h
    cases e : keysD ds with
    | none => rw [e] at h; cases h
    | some ks =>
      rw [e] at h
      cases h
      cases r
      exact .tup ho hc hd (by simpa using keys_ok I h2 e rv)
  | _, _, .non, _, _, h, _ => nomatch h
  | _, _, .bl _, _, _, h, _ => nomatch h
  | _, _, .ref _, _, _, h, _ => nomatch h
  | _, _, .ty _, _, _, h, _ => nomatch h
  | _, _, .cl _ _, _, _, h, _ => nomatch h
  | _, _, .fz _ _, _, _, h, _ => nomatch h
theorem keys_ok (I : Inv X pins σ H s) : ∀ {vs : List V} {ds : List D}, Rps X.K H vs ds → ∀ {ks : List NestedKey} {us : List Value}, keysD ds = some ks → Vals vs us → NestedAll s.heap ks us
  | _, _, .nil, ks, us, h, r => by
    have h : some [] = some ks := h
    cases h
    cases r
    exact .nil
  | _, _, .cons (d := d) (ds := ds) a b, ks, us, h, r => by
    unfold keysD at h
    cases e1 : keyD d with
    | none => rw [e1] at h; simp at h
    | some k =>
      cases e2 : keysD ds with
      | none => rw [e1, e2] at h; simp at h
      | some ls =>
        rw [e1, e2] at h
        cases h
        cases r with
        | cons r1 r2 => exact .cons (key_ok I a e1 r1) (keys_ok I b e2 r2)
end
theorem dkO_full (I : Inv X pins σ H s) {a : Addr} {xs : List (NestedKey × Addr × Value)} {kvs : List (NestedKey × D)} (h : H a = some (DkO X.prog X.w a xs)) (hp : Paired (EnD X.K H) xs kvs) : (a == sysModules) = false ∧ s.heap.DictOfH (nestedKind X.prog X.w) a xs := by
  obtain ⟨h0, o, es, ep, h1, h2, h3, h4, h5⟩ := (I.hok a _ h).1
  refine ⟨h0, o, es, ep, h1, h2, h3, h4, fun x hx => ?_, h5⟩
  have : ∀ {xs : List (NestedKey × Addr × Value)} {kvs : List (NestedKey × D)}, Paired (EnD X.K H) xs kvs → ∀ x ∈ xs, ∃ kd, Rp X.K H (.ref x.2.1) kd ∧ keyD kd = some x.1 ∧ x.1.depth ≤ 8 := by
    intro xs kvs hp
    induction hp with
    | nil => intro x hx; cases hx
    | cons a _ ih =>
      intro x hx
      rcases List.mem_cons.mp hx with e | e
      · rw [e]; exact a.1
      · exact ih x e
  obtain ⟨kd, r, e, hd⟩ := this hp x hx
  exact ⟨key_ok I r e rfl, hd⟩
end
def lkD (kvs : List (NestedKey × D)) (k : NestedKey) : Option D := (kvs.find? fun q => decide (q.1 = k)).map (·.2)
def putD (kvs : List (NestedKey × D)) (k : NestedKey) (d : D) : List (NestedKey × D) := if (lkD kvs k).isSome then kvs.map (fun q => if q.1 = k then (q.1, d) else q) else kvs ++ [(k, d)]
theorem lk_pair {K : Frag} {H : Hp} {k : NestedKey} : ∀ {xs : List (NestedKey × Addr × Value)} {kvs : List (NestedKey × D)}, Paired (EnD K H) xs kvs → (lkD kvs k = none ∧ atKey xs k = none) ∨ ∃ p d v, lkD kvs k = some d ∧ atKey xs k = some p ∧ RelV v p.2 ∧ Rp K H v d
  | _, _, .nil => .inl ⟨rfl, rfl⟩
  | x :: xs, q :: kvs, .cons h t => by
    obtain ⟨_, e, v, r1, r2⟩ := h
    by_cases g : x.1 = k
    · refine .inr ⟨x.2, q.2, v, ?_, ?_, r1, r2⟩
      · unfold lkD; rw [List.find?_cons_of_pos (by rw [← e]; exact decide_eq_true g)]; rfl
      · simp [atKey, g]
    · have g' : ¬ q.1 = k := by rw [← e]; exact g
      rcases lk_pair (k := k) t with ⟨a, b⟩ | ⟨p, d, v, a, b, c⟩
      · refine .inl ⟨?_, ?_⟩
        · unfold lkD at a ⊢; rw [List.find?_cons_of_neg (by simp [g'])]; exact a
        · simp only [atKey] at b ⊢; rw [List.find?_cons_of_neg (by simp [g])]; exact b
      · refine .inr ⟨p, d, v, ?_, ?_, c⟩
        · unfold lkD at a ⊢; rw [List.find?_cons_of_neg (by simp [g'])]; exact a
        · simp only [atKey] at b ⊢; rw [List.find?_cons_of_neg (by simp [g])]; exact b
theorem put_pair {K : Frag} {H : Hp} {k : NestedKey} {a : Addr} {u : Value} {v : V} {d kd : D} {xs : List (NestedKey × Addr × Value)} {kvs : List (NestedKey × D)} (h : Paired (EnD K H) xs kvs) (hk : Rp K H (.ref a) kd ∧ keyD kd = some k ∧ k.depth ≤ 8) (r1 : RelV v u) (r2 : Rp K H v d) : Paired (EnD K H) (storedH xs k a u) (putD kvs k d) := by
  have mp : ∀ {xs : List (NestedKey × Addr × Value)} {kvs : List (NestedKey × D)}, Paired (EnD K H) xs kvs → Paired (EnD K H) (xs.map (putAt k u)) (kvs.map fun q => if q.1 = k then (q.1, d) else q) := by
    intro xs kvs h
    induction h with
    | nil => exact .nil
    | @cons x q xs kvs a _ ih =>
      refine .cons ?_ ih
      obtain ⟨h1, e, w, s1, s2⟩ := a
      unfold putAt
      by_cases g : x.1 = k
      · show EnD K H _ (if q.1 = k then _ else _)
        rw [if_pos g, if_pos (by rw [← e]; exact g)]
        exact ⟨h1, e, v, r1, r2⟩
      · show EnD K H _ (if q.1 = k then _ else _)
        rw [if_neg g, if_neg (by rw [← e]; exact g)]
        exact ⟨h1, e, w, s1, s2⟩
  unfold storedH putD
  rcases lk_pair (k := k) h with ⟨e1, e2⟩ | ⟨p, d', v', e1, e2, _⟩
  · rw [e1, e2]
    have ap : ∀ {xs : List (NestedKey × Addr × Value)} {kvs : List (NestedKey × D)}, Paired (EnD K H) xs kvs → Paired (EnD K H) (xs ++ [(k, a, u)]) (kvs ++ [(k, d)]) := by
      intro xs kvs h
      induction h with
      | nil => exact .cons ⟨⟨kd, hk⟩, rfl, v, r1, r2⟩ .nil
      | cons a _ ih => exact .cons a ih
    exact ap h
  · rw [e1, e2]
    exact mp h
theorem putD_len (kvs : List (NestedKey × D)) (k : NestedKey) (d : D) : (putD kvs k d).length ≤ kvs.length + 1 := by
  unfold putD
  split
  · rw [List.length_map]; omega
  · rw [List.length_append]; exact Nat.le_refl _
section
variable {X : Cx}
/-- a dict at a, a key at b, by values -/
def DkAt (X : Cx) (H : Hp) (x y : V) (k : NestedKey) (kvs : List (NestedKey × D)) : Prop := ∃ a b xs kd, x = V.ref a ∧ y = V.ref b ∧ H a = some (DkO X.prog X.w a xs) ∧ Paired (EnD X.K H) xs kvs ∧ Rp X.K H (.ref b) kd ∧ keyD kd = some k ∧ k.depth ≤ 8
theorem dk_room (hu : X.A.units + 64 < cLine) : (nestedKind X.prog X.w).room X.A.in1 := by show X.A.units + 1 + 8 < cLine; omega
theorem dk_is {pins : List (Addr × Obj)} {σ : L2.St} {H : Hp} {s : Shared} {b : Addr} {kd : D} {k : NestedKey} (I : Inv X pins σ H s) (h3 : Rp X.K H (.ref b) kd) (h4 : keyD kd = some k) (h5 : k.depth ≤ 8) : (nestedKind X.prog X.w).is s.heap k b := ⟨key_ok I h3 h4 rfl, h5⟩
theorem ix_dk (hu : X.A.units + 64 < cLine) : IxR X (fun x y H Q => ∃ k kvs d, DkAt X H x y k kvs ∧ lkD kvs k = some d ∧ ∀ v, Rp X.K H v d → Q v H) := by
  intro value slice pins s σ H x y v u Q I rx ry h hs
  obtain ⟨k, kvs, d, ⟨a, b, xs, kd, rfl, rfl, h1, h2, h3, h4, h5⟩, hd, q⟩ := h
  obtain rfl : v = Value.ref a := rx
  obtain rfl : u = Value.ref b := ry
  obtain ⟨h0, hx⟩ := dkO_full I h1 h2
  rcases lk_pair (k := k) h2 with ⟨e, _⟩ | ⟨p, d', v', e, e2, r1, r2⟩
  · rw [hd] at e; cases e
  · rw [hd] at e
    cases e
    exact tail_any hx.typeIs slot_dict_getitem.lookup (wpAny_getItem_heap (dk_room hu) (dk_is I h3 h4 h5) hx e2 ⟨v', H, I.tok _, r1, q v' r2⟩) hs
theorem op_inDk (hu : X.A.units + 64 < cLine) : OpR X (compareOp .In) (fun y x H Q => ∃ k kvs, DkAt X H x y k kvs ∧ Q (.bl (lkD kvs k).isSome) H) := by
  intro pins s σ H y x u v Q I ry rx h
  obtain ⟨k, kvs, ⟨a, b, xs, kd, rfl, rfl, h1, h2, h3, h4, h5⟩, q⟩ := h
  obtain rfl : v = Value.ref a := rx
  obtain rfl : u = Value.ref b := ry
  obtain ⟨h0, hx⟩ := dkO_full I h1 h2
  refine wpAny_in_heap (dk_room hu) (dk_is I h3 h4 h5) h0 hx ⟨.bl _, H, I.tok _, rfl, ?_⟩
  rcases lk_pair (k := k) h2 with ⟨e, e2⟩ | ⟨p, d', v', e, e2, r1, r2⟩ <;> (rw [e] at q; rw [e2]; exact q)
theorem op_notInDk (hu : X.A.units + 64 < cLine) : OpR X (compareOp .NotIn) (fun y x H Q => ∃ k kvs, DkAt X H x y k kvs ∧ Q (.bl (!(lkD kvs k).isSome)) H) := by
  intro pins s σ H y x u v Q I ry rx h
  obtain ⟨k, kvs, ⟨a, b, xs, kd, rfl, rfl, h1, h2, h3, h4, h5⟩, q⟩ := h
  obtain rfl : v = Value.ref a := rx
  obtain rfl : u = Value.ref b := ry
  obtain ⟨h0, hx⟩ := dkO_full I h1 h2
  refine wpAny_notIn_heap (dk_room hu) (dk_is I h3 h4 h5) h0 hx ⟨.bl _, H, I.tok _, rfl, ?_⟩
  rcases lk_pair (k := k) h2 with ⟨e, e2⟩ | ⟨p, d', v', e, e2, r1, r2⟩ <;> (rw [e] at q; rw [e2]; exact q)
theorem dk_put {pins : List (Addr × Obj)} {σ : L2.St} {H : Hp} {s : Shared} {a : Addr} {xs ys : List (NestedKey × Addr × Value)} {h' : Heap} {t' : Nat} (I : Inv X pins σ H s) (h1 : H a = some (DkO X.prog X.w a xs)) (h0 : (a == sysModules) = false) (hs : Heap.SameBut a s.heap h') (dd : h'.DictOfH (nestedKind X.prog X.w) a ys) :
    Inv X pins σ (upd H a (DkO X.prog X.w a ys)) { s with heap := h', toks := t' } := by
  obtain ⟨o, es, ep, g1, g2, g3, g4, _, g5⟩ := dd
  refine d_write I (by rw [h1]; exact True.intro) hs ⟨o, g1⟩ ⟨⟨h0, o, es, ep, g1, g2, g3, g4, g5⟩, ⟨o, g1⟩, fun x1 x2 p k => ?_⟩
  obtain ⟨p0, o', es', ep', f1, f2⟩ := p
  exact ⟨p0, o', es', ep', k o' f1, f2⟩
theorem set_dk (hu : X.A.units + 64 < cLine) : PSet X (fun x y v H Q => ∃ a b xs kd k, x = V.ref a ∧ y = V.ref b ∧ H a = some (DkO X.prog X.w a xs) ∧ (∃ kvs, Paired (EnD X.K H) xs kvs ∧ xs.length ≤ sizeLine) ∧ Rp X.K H (.ref b) kd ∧ keyD kd = some k ∧ k.depth ≤ 8 ∧ ∀ u, RelV v u → Q (upd H a (DkO X.prog X.w a (storedH xs k b u)))) := by
  intro pins s σ H o i v ov iv u Q I ro ri rv h
  obtain ⟨a, b, xs, kd, k, rfl, rfl, h1, ⟨kvs, h2, hz⟩, h3, h4, h5, q⟩ := h
  obtain rfl : ov = Value.ref a := ro
  obtain rfl : iv = Value.ref b := ri
  obtain ⟨h0, hx⟩ := dkO_full I h1 h2
  exact wpAny_setItem_heap (hsz := hz) (dk_room hu) (dk_is I h3 h4 h5) hx fun h' dd hs => ⟨_, dk_put I h1 h0 hs dd, q u rv⟩
theorem dk_empty0 {P : Program} {w : World} {H : Hp} {h : Heap} (hb : sysModules < h.objs.size) : ObjOk P w H (h.push { cls := .type "dict", data := .dict #[] }) h.objs.size (DkO P w h.objs.size []) := by
  have g := Heap.get?_push_size h (o := { cls := .type "dict", data := .dict #[] }) rfl
  refine ⟨⟨by simp; exact fun e => absurd e (Nat.ne_of_gt hb), _, #[], 0, g, ⟨rfl, rfl, rfl⟩, rfl, rfl, List.nodup_nil⟩, ⟨_, g⟩, fun x1 x2 p k => ?_⟩
  obtain ⟨p0, o', es', ep', f1, f2⟩ := p
  exact ⟨p0, o', es', ep', k o' f1, f2⟩
theorem pe_dk0 {pos : Pos} : PE X (.Dict [] [] pos) (fun _ H Q => ∀ p, H p = none → Q (.ref p) (upd H p (DkO X.prog X.w p []))) := ⟨fun pins s σ H Q I h =>
  wpAny_Dict_empty ⟨.ref s.heap.objs.size, _, I.laid (a := s.heap.objs.size) (o := DkO X.prog X.w s.heap.objs.size []) (t' := s.toks) (fun _ _ q => Heap.get?_push_of_some _ q) (Nat.le_refl _) (dk_empty0 I.big), rfl, h _ (I.hok.fresh (Nat.le_refl _))⟩⟩
end
/-! ### the rules of the layer -/
theorem Rel.dD {K : Frag} {A : AH} {H : Hp} {P : Program} {w : World} {p : Addr} {kvs : List (NestedKey × D)} (r : Rel K A H) (h : A p = some (.dD P w p kvs)) : ∃ xs, H p = some (DkO P w p xs) ∧ Paired (EnD K H) xs kvs := by
  obtain ⟨u, e1, xs, e2, e3⟩ := r p _ h
  rw [e2] at e1
  exact ⟨xs, e1, e3⟩
section
variable {X : Cx} {W : WX} {ρ : Ro} {A : AH} {e a b o i : Expr} {pos : Pos} {d kd : D} {k : AK} {E : AEnds} {kk : NestedKey} {kvs : List (NestedKey × D)} {lv : Nat} {p : Addr}
theorem ref_tup {K : Frag} {H : Hp} {v : V} {ds : List D} (h : Rp K H v (.tup ds)) : ∃ a, v = .ref a := let ⟨a, _, e, _⟩ := h.tup_of; ⟨a, e⟩
theorem ae_dict0 (q : ∀ p, A p = none → k (.ref p) (aupd A p (.dD X.prog X.w p []))) : AE X (.Dict [] [] pos) ρ A k := fun σ H s Q qq =>
  tm_of pe_dk0 (fun p hp => qq _ _ _ _ (TS.new hp) (.ref p) (s.hp.new (o := .dD X.prog X.w p []) hp ⟨[], rfl, .nil⟩) (q p (s.hp.none hp)))
variable {ds : List D}
theorem dk_at {H : Hp} {v u : V} (l : Rel X.K A H) (hl : A p = some (.dD X.prog X.w p kvs)) (r1 : Rp X.K H v (.ref p)) (r2 : Rp X.K H u (.tup ds)) (hk : keyD (.tup ds) = some kk) (hd : kk.depth ≤ 8) : DkAt X H v u kk kvs := by
  obtain ⟨xs, e1, e2⟩ := l.dD hl
  obtain ⟨c, rfl⟩ := ref_tup r2
  rw [r1.ref_of]
  exact ⟨p, c, xs, _, rfl, rfl, e1, e2, r2, hk, hd⟩
theorem av_ixDk (hr : Room lv X.A) (ha : AV X a ρ A (.ref p)) (hb : AV X b ρ A (.tup ds)) (hl : A p = some (.dD X.prog X.w p kvs)) (hk : keyD (.tup ds) = some kk) (hd : kk.depth ≤ 8) (h : lkD kvs kk = some d) (hs : PlainIx b := by intro _ _; rfl) : AV X (.Subscript a b pos) ρ A d := fun σ H s Q q =>
  tm_of (pe_ix (ix_dk hr.units) (pe_tm a) (pe_tm b) hs) (ha σ H s _ fun v H1 t1 r1 l1 => hb σ H1 (s.mono t1 l1) _ fun u H2 t2 r2 l2 =>
    ⟨kk, kvs, d, dk_at l2 hl (r1.mono t2) r2 hk hd, h, fun w rw' => q w H2 (t1.trans t2) rw' l2⟩)
theorem at_notInDk (hr : Room lv X.A) (hb : AV X b ρ A (.tup ds)) (ha : AV X a ρ A (.ref p)) (hl : A p = some (.dD X.prog X.w p kvs)) (hk : keyD (.tup ds) = some kk) (hd : kk.depth ≤ 8) (hm : behindInMarks .NotIn a = false := by rfl) : AT X (.Compare b [.NotIn] [a] pos) ρ A (!(lkD kvs kk).isSome) :=
  at_cmp (op_notInDk hr.units) hm hb ha fun u v H r2 r1 l Q q => ⟨kk, kvs, dk_at l hl r1 r2 hk hd, q H (TS.refl H) l⟩
theorem at_inDk (hr : Room lv X.A) (hb : AV X b ρ A (.tup ds)) (ha : AV X a ρ A (.ref p)) (hl : A p = some (.dD X.prog X.w p kvs)) (hk : keyD (.tup ds) = some kk) (hd : kk.depth ≤ 8) (hm : behindInMarks .In a = false := by rfl) : AT X (.Compare b [.In] [a] pos) ρ A (lkD kvs kk).isSome :=
  at_cmp (op_inDk hr.units) hm hb ha fun u v H r2 r1 l Q q => ⟨kk, kvs, dk_at l hl r1 r2 hk hd, q H (TS.refl H) l⟩
theorem a1_setDk {tpos : Pos} (hr : Room lv X.A) (h : AV X e ρ A d) (ho : AV X o ρ A (.ref p)) (hi : AV X i ρ A (.tup ds)) (hl : A p = some (.dD X.prog X.w p kvs)) (hk : keyD (.tup ds) = some kk) (hd : kk.depth ≤ 8) (hn : kvs.length ≤ sizeLine) (q : E.nx ρ (aupd A p (.dD X.prog X.w p (putD kvs kk d))))
    (ha : ∀ v, assign (.Subscript o i tpos) X.env v = (do
      let ov ← holding [v] (eval o X.env)
      let iv ← holding [v, ov] (eval i X.env)
      standAt tpos
      holding [v, ov, iv] (setItem ov iv v)
      release [v, ov, iv] []) := by intro _; rfl) (hs : swapsWithSole [.Subscript o i tpos] e pos.line X.env = pure false := by rfl) (hw : swappedStores [.Subscript o i tpos] e X.env = pure none := by rfl)
    (h1 : (assignEach [.Subscript o i tpos] X.env).map (·.2) = [assign (.Subscript o i tpos) X.env] := by rfl) : A1 X W (.Assign [.Subscript o i tpos] e pos) ρ A E := fun σ H s D qq =>
  tm1_of (ps_asg (pe_tm e) (pg_sub (pe_tm o) (pe_tm i) (set_dk hr.units) ha) hs hw h1) (h σ H s _ fun v H1 t1 r1 l1 => ho σ H1 (s.mono t1 l1) _ fun w H2 t2 r2 l2 => hi σ H2 ((s.mono t1 l1).mono t2 l2) _ fun z H3 t3 r3 l3 => by
    have tt := (t1.trans t2).trans t3
    obtain ⟨xs, e1, e2⟩ := l3.dD hl
    obtain ⟨c, rfl⟩ := ref_tup r3
    rw [r2.ref_of]
    have hz : xs.length ≤ sizeLine := by rw [Paired.length e2]; exact hn
    refine ⟨p, c, xs, _, kk, rfl, rfl, e1, ⟨kvs, e2, hz⟩, r3, hk, hd, fun u ru => ?_⟩
    have t4 : TS H3 (upd H3 p (DkO X.prog X.w p (storedH xs kk c u))) := TS.put e1 (fun _ z => nomatch z) (fun _ _ z => nomatch z)
    have l4 : Rel X.K (aupd A p (.dD X.prog X.w p (putD kvs kk d))) (upd H3 p (DkO X.prog X.w p (storedH xs kk c u))) := l3.put e1 (fun _ z => nomatch z) (fun _ _ z => nomatch z) ⟨_, rfl, Paired.mapP (put_pair e2 ⟨r3, hk, hd⟩ ru ((r1.mono t2).mono t3)) fun _ _ ⟨⟨kd, z1, z2⟩, z3, v, z4, z5⟩ => ⟨⟨kd, z1.mono t4, z2⟩, z3, v, z4, z5.mono t4⟩⟩
    exact qq.nx ρ _ σ _ (tt.trans t4) (s.mono (tt.trans t4) l4) q)
end
/-! ### a pair in a list of pairs -/
section
variable {X : Cx}
theorem op_inP (hu : X.A.units + 64 < cLine) : OpR X (compareOp .In) (fun x y H Q => ∃ t p ks, ∃ z : Int × Int, x = V.ref t ∧ y = V.ref p ∧ SqT X.K H t [.int z.1, .int z.2] ∧ SqL X.K H p (List.map (fun q : Addr × List Int => V.ref q.1) ks) ∧ (∀ q ∈ ks, SqT X.K H q.1 (q.2.map V.int)) ∧ Q (.bl (decide ([z.1, z.2] ∈ ks.map (·.2)))) H) := by
  intro pins s σ H x y v u Q I rx ry h
  obtain ⟨t, p, ks, z, rfl, rfl, h1, h2, h3, q⟩ := h
  obtain rfl : v = Value.ref t := rx
  obtain rfl : u = Value.ref p := ry
  obtain ⟨its, r, pl, hz⟩ := I.list h2
  have er : its = ks.map fun q => Value.ref q.1 := refs_of_vals r
  have rd : ∀ {c : Addr} {ns : List Int}, SqT X.K H c (ns.map V.int) → ∃ as, Reads s.heap (Value.ref c) (.tuple (ns.map PyData.int)) as := fun {c ns} hc => by
    obtain ⟨o, vs, n, ho, hcl, hd, hi⟩ := I.isT hc
    have hi' := ints_of_items hi
    have : ∀ {us : List Value} {ms : List Int}, IntsAre us ms → ReadsAll s.heap us (ms.map PyData.int) [] := by
      intro us ms h
      induction h with
      | nil => exact .nil
      | cons p t _ ih => exact .cons (as := []) (.int _ _) ih
    exact ⟨[], .tuple ho hcl hd (this hi')⟩
  have lay : ∀ ns : List Int, (PyData.tuple (ns.map PyData.int)).canLay0 = true := fun ns => by
    show PyData.canLayAll0 (ns.map PyData.int) = true
    induction ns with
    | nil => rfl
    | cons n ns ih => rw [List.map_cons, PyData.canLayAll0, ih]; rfl
  have dep : ∀ ns : List Int, (PyData.tuple (ns.map PyData.int)).depth ≤ 1 := fun ns => by
    show PyData.depthAll (ns.map PyData.int) + 1 ≤ 1
    have : PyData.depthAll (ns.map PyData.int) = 0 := by
      induction ns with
      | nil => rfl
      | cons n ns ih => rw [List.map_cons, PyData.depthAll, ih]; rfl
    omega
  have eqv : ∀ ns ms : List Int, PyData.eqv (.tuple (ns.map PyData.int)) (.tuple (ms.map PyData.int)) = decide (ns = ms) := fun ns ms => by
    show PyData.eqvAll (ns.map PyData.int) (ms.map PyData.int) = _
    induction ns generalizing ms with
    | nil => cases ms with | nil => rfl | cons m ms => rfl
    | cons n ns ih =>
      cases ms with
      | nil => rfl
      | cons m ms =>
        rw [List.map_cons, List.map_cons, PyData.eqvAll, ih]
        show ((n == m) && decide (ns = ms)) = _
        rw [Bool.eq_iff_iff]
        simp
  have fi : ∀ q ∈ ks, TS.intsOf s.heap (Value.ref q.1) = q.2 := fun q hq => (tupInts_of (P := X.prog) (w := X.w) (I.isT (h3 q hq))).ints
  have h1' : SqT X.K H t (([z.1, z.2] : List Int).map V.int) := h1
  refine SeqAt.in_listAt (fun y => decide (TS.intsOf s.heap y = [z.1, z.2])) pl.isList (fun y hy => ?_) ⟨.bl _, H, I, rfl, ?_⟩
  · have hy : y ∈ its := by simpa using hy
    rw [er] at hy
    obtain ⟨q, hq, rfl⟩ := List.mem_map.mp hy
    obtain ⟨as, ra⟩ := rd (h3 q hq)
    obtain ⟨bs, rb⟩ := rd h1'
    have := PySem.SeqAt.eqAt_reads _ _ X.A.in1 s _ _ as bs ra rb (lay _) (lay _) (by have := dep q.2; have := dep [z.1, z.2]; show X.A.units + 1 + _ < cLine; omega)
    rw [eqv] at this
    show SeqAt.EqAt X.A.in1 s _ _ (decide (TS.intsOf s.heap (Value.ref q.1) = [z.1, z.2]))
    rw [fi q hq]
    exact this
  · have : (its.toArray.any fun y => decide (TS.intsOf s.heap y = [z.1, z.2])) = decide ([z.1, z.2] ∈ ks.map (·.2)) := by
      rw [show its.toArray.any (fun y => decide (TS.intsOf s.heap y = [z.1, z.2])) = its.any (fun y => decide (TS.intsOf s.heap y = [z.1, z.2])) by simp, er, List.any_map, Bool.eq_iff_iff]
      simp only [List.any_eq_true, decide_eq_true_eq, List.mem_map, Function.comp]
      constructor
      · rintro ⟨q, hq, e⟩
        rw [fi q hq] at e
        exact ⟨q, hq, e⟩
      · rintro ⟨q, hq, e⟩
        exact ⟨q, hq, by rw [fi q hq]; exact e⟩
    rw [this]
    exact q
variable {ρ : Ro} {A : AH} {a b : Expr} {pos : Pos} {x : D} {z : Int × Int} {zs : List (Int × Int)} {lv : Nat}
theorem at_inP (hr : Room lv X.A) (ha : AV X a ρ A (ipp z)) (hb : AV X b ρ A x) (hl : IsL A x (zs.map ipp)) (hm : behindInMarks .In b = false := by rfl) : AT X (.Compare a [.In] [b] pos) ρ A (decide (z ∈ zs)) :=
  at_cmp (op_inP hr.units) hm ha hb fun v u H r1 r2 l Q q => by
    obtain ⟨t, ws, rfl, t1, t2⟩ := r1.tup_of
    cases t2 with
    | cons u1 t2 =>
      cases t2 with
      | cons u2 t2 =>
        cases t2
        rw [u1.int_of, u2.int_of] at t1
        obtain ⟨c, vs, rfl, c1, c2⟩ := hl.sq r2 l
        obtain ⟨ks, rfl, k2, k3⟩ := pairs_at c2
        refine ⟨t, c, ks, z, rfl, rfl, t1, c1, k2, ?_⟩
        have e : decide ([z.1, z.2] ∈ ks.map (·.2)) = decide (z ∈ zs) := by
          rw [k3, decide_eq_decide, List.mem_map]
          constructor
          · rintro ⟨y, hy, e⟩
            have e1 : y.1 = z.1 := by injection e
            have e2 : y.2 = z.2 := by injection e with _ e; injection e
            rw [← (show y = z from Prod.ext e1 e2)]
            exact hy
          · intro h; exact ⟨z, h, rfl⟩
        rw [e]
        exact q H (TS.refl H) l
end
end C7
namespace C7
open PySem PySem.Spec PyProof.Rows L2
/-! ### min of a list of pairs -/
def minP (x : Int × Int) (xs : List (Int × Int)) : Int × Int := xs.foldl (fun b y => if ltP y b then y else b) x
theorem minP_ok : ∀ (xs : List (Int × Int)) (x : Int × Int), minP x xs ∈ x :: xs ∧ ∀ y ∈ x :: xs, ltP y (minP x xs) = false
  | [], x => ⟨List.mem_cons_self, fun y hy => by
    rw [List.mem_singleton.mp hy]
    cases e : ltP x (minP x []) with
    | false => rfl
    | true => have : ltP x x = true := e; rw [ltP_iff] at this; omega⟩
  | z :: r, x => by
    obtain ⟨h1, h2⟩ := minP_ok r (if ltP z x then z else x)
    have e : minP x (z :: r) = minP (if ltP z x then z else x) r := rfl
    rw [e]
    have le : ∀ a b c : Int × Int, ltP a b = false → ltP b c = false → ltP a c = false := fun a b c p q => by
      cases g : ltP a c with
      | false => rfl
      | true =>
        have p : ¬ ltP a b = true := by rw [p]; decide
        have q : ¬ ltP b c = true := by rw [q]; decide
        rw [ltP_iff] at p q g
        omega
    have h0 := h2 _ List.mem_cons_self
    refine ⟨?_, fun y hy => ?_⟩
    · rcases List.mem_cons.mp h1 with g | g
      · rw [g]; split
        · simp
        · simp
      · exact List.mem_cons_of_mem _ (List.mem_cons_of_mem _ g)
    · rcases List.mem_cons.mp hy with g | g
      · rw [g]
        refine le _ _ _ ?_ h0
        split
        · rename_i q
          cases p : ltP x z with
          | false => rfl
          | true => rw [ltP_iff] at p q; omega
        · cases p : ltP x x with
          | false => rfl
          | true => rw [ltP_iff] at p; omega
      · rcases List.mem_cons.mp g with g | g
        · rw [g]
          refine le _ _ _ ?_ h0
          split
          · cases p : ltP z z with
            | false => rfl
            | true => rw [ltP_iff] at p; omega
          · rename_i q
            exact Bool.eq_false_iff.mpr q
        · exact h2 y (List.mem_cons_of_mem _ g)
abbrev dI (z : Int × Int) : PyData := .tuple [.int z.1, .int z.2]
theorem minD_pair : ∀ (xs : List (Int × Int)) (x : Int × Int), PySem.W.minD (dI x) (xs.map dI) = dI (minP x xs)
  | [], x => rfl
  | z :: r, x => by
    have ih := minD_pair r (if ltP z x then z else x)
    have e : minP x (z :: r) = minP (if ltP z x then z else x) r := rfl
    rw [e, ← ih]
    unfold PySem.W.minD
    rw [List.map_cons, List.foldl_cons]
    congr 1
    rw [PySem.W.dataLt_ii]
    unfold ltP
    split <;> rename_i h <;> simp_all
section
variable {X : Cx}
theorem cr_minP (hc : X.calm = true) (hu : X.A.units + 64 < cLine) : CallR X (.builtin "min") (fun vs H Q => ∃ (a : Addr) (ks : List (Addr × List Int)) (x : Int × Int) (xs : List (Int × Int)), vs = [V.ref a] ∧ SqL X.K H a (ks.map fun z => V.ref z.1) ∧ (∀ z ∈ ks, SqT X.K H z.1 (z.2.map V.int)) ∧ ks.map (·.2) = (x :: xs).map (fun z => [z.1, z.2]) ∧
    ∀ t, SqT X.K H t [.int (minP x xs).1, .int (minP x xs).2] → Q (.ref t) H) := by
  intro pins s σ H vs us Q I r h
  obtain ⟨a, ks, x, xs, rfl, h1, h2, h3, q⟩ := h
  rw [Vals.ref1 r]
  obtain ⟨its, rv, pl, hz⟩ := I.list h1
  have er : its = ks.map fun z => Value.ref z.1 := refs_of_vals rv
  have rd : ∀ (ls : List (Addr × List Int)) (ys : List (Int × Int)), (∀ z ∈ ls, z ∈ ks) → ls.map (·.2) = ys.map (fun z => [z.1, z.2]) → ReadsAll s.heap (ls.map fun z => Value.ref z.1) (ys.map dI) [] := by
    intro ls
    induction ls with
    | nil => intro ys _ e; cases ys with | nil => exact .nil | cons y ys => cases e
    | cons z ls ih =>
      intro ys hm e
      cases ys with
      | nil => cases e
      | cons y ys =>
        rw [List.map_cons, List.map_cons] at e
        injection e with e1 e2
        obtain ⟨o, vs, n, ho, hcl, hd, hi⟩ := I.isT (h2 z (hm z List.mem_cons_self))
        have hi' := ints_of_items hi
        rw [show z.2 = [y.1, y.2] from e1] at hi'
        refine .cons (as := []) (.tuple ho hcl hd ?_) (ih ys (fun u hu => hm u (List.mem_cons_of_mem _ hu)) e2)
        generalize vs.toList = us at hi'
        cases hi' with
        | cons p t hi2 =>
          cases hi2 with
          | cons p2 t2 hi3 =>
            cases hi3
            exact .cons (as := []) (.int _ _) (.cons (as := []) (.int _ _) .nil)
  have ra : ReadsAll s.heap its.toArray.toList (dI x :: xs.map dI) [] := by
    rw [List.toList_toArray, er]
    exact rd ks (x :: xs) (fun _ h => h) h3
  refine PySem.W.min_list_data (I.ok.hd hc) pl.isList ra ⟨fun d hd e he => ?_, fun d hd => ?_⟩ ?_ fun i v h' tk bs hi hr hk => ?_
  · rw [← List.map_cons (f := dI)] at hd he
    obtain ⟨y, _, rfl⟩ := List.mem_map.mp hd
    obtain ⟨z, _, rfl⟩ := List.mem_map.mp he
    rfl
  · rw [← List.map_cons (f := dI)] at hd
    obtain ⟨y, _, rfl⟩ := List.mem_map.mp hd
    exact fun z => nomatch z
  · have : PyData.depthAll (dI x :: xs.map dI) ≤ 1 := by
      rw [← List.map_cons (f := dI)]
      generalize x :: xs = ys
      induction ys with
      | nil => exact Nat.zero_le _
      | cons y ys ih => rw [List.map_cons, PyData.depthAll]; refine Nat.max_le.mpr ⟨?_, ih⟩; simp [PyData.depth, PyData.depthAll]
    omega
  · rw [minD_pair] at hr
    have hv : its[i]? = some v := by simpa using hi
    rw [er, List.getElem?_map] at hv
    cases hki : ks[i]? with
    | none => rw [hki] at hv; cases hv
    | some z =>
      rw [hki] at hv
      cases hv
      have hzk : z ∈ ks := List.mem_of_getElem? hki
      have J : Inv X pins σ H { s with heap := h', toks := tk } := I.kept hk
      have f1 : TS.intsOf h' (Value.ref z.1) = z.2 := (tupInts_of (P := X.prog) (w := X.w) (J.isT (h2 z hzk))).ints
      have f2 : TS.intsOf h' (Value.ref z.1) = [(minP x xs).1, (minP x xs).2] := by
        refine TS.TupInts.ints ?_
        cases hr with
        | @tuple _ _ vs _ _ _ ho hcl hd hra =>
          refine ⟨_, _, rfl, ⟨_, ho, hcl, _, hd⟩, ?_⟩
          generalize vs.toList = us at hra
          cases hra with
          | cons r1 hra =>
            cases hra with
            | cons r2 hra =>
              cases hra
              cases r1
              cases r2
              exact .cons _ _ (.cons _ _ .nil)
      have e : z.2 = [(minP x xs).1, (minP x xs).2] := f1.symm.trans f2
      have hsq := h2 z hzk
      rw [e] at hsq
      exact ⟨.ref z.1, H, J, rfl, q z.1 hsq⟩
variable {ρ : Ro} {A : AH} {a : Expr} {pos p0 : Pos} {d : D} {x : Int × Int} {xs : List (Int × Int)} {lv : Nat}
theorem av_minP (hr : Room lv X.A) (hc : X.calm = true) (hg : Gl X "min") (hm : X.mg "min" = none) (h : AV X a ρ A d) (hl : IsL A d ((x :: xs).map ipp)) (hs : starEach [a] X.env = [(false, eval a X.env)] := by rfl) : AV X (.Call (.Name "min" p0) [a] [] pos) ρ A (ipp (minP x xs)) :=
  AE.av (ae_callB (cr_minP hc hr.units) hg hm (by decide +kernel) (aes_cons (h.ae (aes_nil (fun vs H r l Q q => by
    obtain ⟨v, rfl, r1⟩ := rps1 r
    obtain ⟨p, ws, rfl, h1, h2⟩ := hl.sq r1 l
    obtain ⟨ks, rfl, k2, k3⟩ := pairs_at h2
    exact ⟨p, ks, x, xs, rfl, h1, k2, k3, fun t ht => q _ H _ A (TS.refl H) (.tup ht (.cons (.int _) (.cons (.int _) .nil))) l ⟨rfl, Ext.refl _⟩⟩))) hs) (he := hs) (hpl := rfl))
end
end C7
namespace C7
open PySem PySem.Spec PyProof.Rows L2
/-! ### own classes: making, methods, fields -/
section
variable {X : Cx} {CX : CXT} {lv : Nat} {f C : Addr} {fd : FuncData} {ps : List Str} {sp : Sp}
theorem run_mkX {pins : List (Addr × Obj)} {σ : L2.St} {H : Hp} {s : Shared} {Q : VK} {E : XK} {us : List Value} {vs : List V} (M : Mk X.K C f) (F : FnOk X.prog X.w X.K X.mg X.base CX lv f fd ps sp) (hr : Room (lv + 1) X.A) (hb : Binds X.K fd ps [])
    (hx : PassesAt CX X σ E) (I : Inv X pins σ H s) (r : Vals vs us) (h : ∀ x dx, H x = none → H dx = none → dx ≠ x → sp (.ref x :: vs) (upd (upd H dx (.own x)) x (.ins C dx [])) (fun v H2 => v = .non ∧ Q (.ref x) H2) E) :
    wpAny (model X.prog X.w) X.A (call (.ref C) us) (EP X pins σ Q) X.xe s := by
  have J := Inv.made (C := C) I
  have hsp := h (s.heap.objs.size + 1) s.heap.objs.size (I.hok.fresh (Nat.le_succ _)) (I.hok.fresh (Nat.le_refl _)) (Nat.ne_of_lt (Nat.lt_succ_self _))
  have rr : Vals (V.ref (s.heap.objs.size + 1) :: vs) (Value.ref (s.heap.objs.size + 1) :: us) := .cons rfl r
  have ln : (Value.ref (s.heap.objs.size + 1) :: us).length = ps.length := rr.length.symm.trans (F.len _ _ _ _ hsp)
  have bd := hb _ (Value.ref (s.heap.objs.size + 1) :: us) J.kIn (by rw [List.append_nil]; exact ln)
  rw [List.append_nil] at bd
  refine wpAny_call (make_map (f := f) I.kIn M.makes M.init (beq_iff_eq.mp M.fn) (codeAny_mono (F.run _ X.stack _ _ ⟨Value.ref (s.heap.objs.size + 1) :: us, []⟩ _ _ _ E (hr.make C us []) (J.env0.make C us []) bd rr hsp) fun res s' hz => ?_))
  match res, hz with
  | .error e, hz => exact hx pins _ _ e s' J hz
  | .ok (.ret u), hz =>
    obtain ⟨v, H', I3, rv, ev, q3⟩ := J.after hz
    subst ev
    exact ⟨rv, ⟨V.ref (s.heap.objs.size + 1), H', I3, rfl, q3⟩⟩
  | .ok .next, hz => exact hz.elim
  | .ok .brk, hz => exact hz.elim
  | .ok .cont, hz => exact hz.elim
def tMkX (C : Addr) (sp : Sp) (E : L2.St → XK) (t : TA) : TE := fun σ H Q => t σ H fun vs H1 => ∀ x dx, H1 x = none → H1 dx = none → dx ≠ x → sp (.ref x :: vs) (upd (upd H1 dx (.own x)) x (.ins C dx [])) (fun v H2 => v = .non ∧ Q (.ref x) H2) (E σ)
theorem pe_mkX {E : L2.St → XK} {x : Str} {p pos : Pos} {e : Expr} {es : List Expr} {t : TA} (M : Mk X.K C f) (F : FnOk X.prog X.w X.K X.mg X.base CX lv f fd ps sp) (hr : Room (lv + 1) X.A) (hg : Gl X x) (hm : X.mg x = some (.ref C)) (hb : Binds X.K fd ps []) (hx : ∀ σ, PassesAt CX X σ (E σ)) (ha : PA X (e :: es) t)
    (hdb : (x == ("__debug__" : Str)) = false := by decide) (he : starEach (e :: es) X.env = (false, eval e X.env) :: starEach es X.env := by rfl) (hpl : (backTo pos (starEach es X.env)).any (·.1) = false := by rfl) : PE X (.Call (.Name x p) (e :: es) [] pos) (tMkX C sp E t) :=
  ⟨fun pins s σ H Q I h => wpAny_Call_Name_kw (ld_glob I hg hm (PySem.W.callWith_K (h₀ := X.base) I.ok.mod.kin M.kp (thn (ha.run pos pins s σ H _ I h) fun us s1 ⟨vs, H1, I1, r, q⟩ => ⟨I1.kIn, run_mkX M F hr hb (hx σ) I1 r q⟩) he hpl) hdb)⟩
def tMtX (C : Addr) (m : Str) (sp : Sp) (E : L2.St → XK) (ta : TE) (t : TA) : TE := fun σ H Q => ta σ H fun x H1 => ∃ a dx fs, x = .ref a ∧ H1 a = some (.ins C dx fs) ∧ fs.lookup m = none ∧ t σ H1 fun vs H2 => sp (x :: vs) H2 Q (E σ)
variable {E : L2.St → XK} {m : Str} {apos pos : Pos} {e o : Expr} {es : List Expr} {ta : TE} {t : TA}
theorem pe_mtX {pl : Sem Bool} (ho : PE X o ta) (c : Cls X.K C) (hm : Meth X.K C m f) (F : FnOk X.prog X.w X.K X.mg X.base CX lv f fd ps sp) (hr : Room lv X.A) (hb : Binds X.K fd ps []) (hx : ∀ σ, PassesAt CX X σ (E σ)) (ha : PA X (e :: es) t)
    (hst : starEach (e :: es) X.env = (false, eval e X.env) :: starEach es X.env := by rfl) (hpl : (backTo pos (starEach es X.env)).any (·.1) = false := by rfl)
    (ht : eval (.Call (.Attribute o m apos) (e :: es) [] pos) X.env = (eval o X.env >>= fun ov => standAt apos.atName >>= fun _ => holding [ov] (getMethod ov m pl) >>= fun z => callWith pos z.1 z.2 (backTo pos (starEach (e :: es) X.env)) (backToKw pos (keywordEach [] X.env))) := by rfl) :
    PE X (.Call (.Attribute o m apos) (e :: es) [] pos) (tMtX C m sp E ta t) := by
  refine ⟨fun pins s σ H Q I h => PySem.W.methodCall_KW (pl := pl) (thn (ho.run pins s σ H _ I h) fun u s1 hu => ?_) ht⟩
  obtain ⟨x, H1, I1, rx, a, dx, fs, rfl, ea, l, q⟩ := hu
  obtain rfl : u = Value.ref a := rx
  exact getmeth_ok I1 ea c hm l (PySem.W.callWith_K (first := [.ref a]) (h₀ := X.base) I.ok.mod.kin hm.kp (thn (ha.run pos pins s1 σ H1 _ I1 q) fun us s2 ⟨vs, H2, I2, r, q2⟩ => ⟨I2.kIn, run_fnS (us := .ref a :: us) (vs := .ref a :: vs) F hr hb (hx σ) I2 (.cons rfl r) q2⟩) hst hpl)
theorem pe_mtX0 {pl : Sem Bool} (ho : PE X o ta) (c : Cls X.K C) (hm : Meth X.K C m f) (F : FnOk X.prog X.w X.K X.mg X.base CX lv f fd ps sp) (hr : Room lv X.A) (hb : Binds X.K fd ps []) (hx : ∀ σ, PassesAt CX X σ (E σ))
    (ht : eval (.Call (.Attribute o m apos) [] [] pos) X.env = (eval o X.env >>= fun ov => standAt apos.atName >>= fun _ => holding [ov] (getMethod ov m pl) >>= fun z => callWith pos z.1 z.2 (backTo pos (starEach [] X.env)) (backToKw pos (keywordEach [] X.env))) := by rfl) :
    PE X (.Call (.Attribute o m apos) [] [] pos) (tMtX C m sp E ta tNil) := by
  refine ⟨fun pins s σ H Q I h => PySem.W.methodCall_KW (pl := pl) (thn (ho.run pins s σ H _ I h) fun u s1 hu => ?_) ht⟩
  obtain ⟨x, H1, I1, rx, a, dx, fs, rfl, ea, l, q⟩ := hu
  obtain rfl : u = Value.ref a := rx
  exact getmeth_ok I1 ea c hm l (PySem.W.callWith_K0 (first := [.ref a]) I1.kIn hm.kp (run_fnS (us := [.ref a]) (vs := [.ref a]) F hr hb (hx σ) I1 (.cons rfl .nil) q))
end
/-- what the top has left of a method, of a class's __init__ -/
structure MtF (K : Frag) (C : Addr) (m qual : Str) (st : Stmt) (ps : List Str) : Prop where
  ex : ∃ f fd, Fun K m qual st f fd ∧ Meth K C m f ∧ Binds K fd ps []
structure InF (K : Frag) (C : Addr) (qual : Str) (st : Stmt) (ps : List Str) : Prop where
  ex : ∃ f fd, Fun K "__init__" qual st f fd ∧ Mk K C f ∧ Binds K fd ps []
structure Mt (P : Program) (w : World) (K : Frag) (mg : Str → Option Value) (base : Heap) (C : Addr) (m : Str) (k : Nat) (ct : Ct) : Prop where
  ex : ∃ f fd ps, FnOk P w K mg base (L2N.CX P w) k f fd ps (spOf K ct) ∧ Meth K C m f ∧ Binds K fd ps []
structure Ini (P : Program) (w : World) (K : Frag) (mg : Str → Option Value) (base : Heap) (C : Addr) (k : Nat) (ct : Ct) : Prop where
  ex : ∃ f fd ps, FnOk P w K mg base (L2N.CX P w) k f fd ps (spOf K ct) ∧ Mk K C f ∧ Binds K fd ps []
structure ClF (K : Frag) (mg : Str → Option Value) (x : Str) (C : Addr) : Prop where
  c : Cls K C
  g : mg x = some (.ref C)
section
variable {P : Program} {w : World} {K : Frag} {mg : Str → Option Value} {base : Heap} {C : Addr} {m qual : Str} {st : Stmt} {N ps : List Str} {k : Nat} {ct : Ct}
theorem mt_mk (d : MtF K C m qual st ps) (S : FnScope N ps (defScope st)) (len : ∀ ds A k e, ct ds A k e → ds.length = ps.length) (body : ∀ f, BodyOk P w K mg base N qual st f k ct) : Mt P w K mg base C m (k + 1) ct := by
  obtain ⟨f, fd, F, hm, hb⟩ := d.ex
  exact ⟨f, fd, ps, fnok_mk F S len (body f), hm, hb⟩
theorem in_mk (d : InF K C qual st ps) (S : FnScope N ps (defScope st)) (len : ∀ ds A k e, ct ds A k e → ds.length = ps.length) (body : ∀ f, BodyOk P w K mg base N qual st f k ct) : Ini P w K mg base C (k + 1) ct := by
  obtain ⟨f, fd, F, hm, hb⟩ := d.ex
  exact ⟨f, fd, ps, fnok_mk F S len (body f), hm, hb⟩
theorem mtf_mk {f : Addr} {oc : Value} {od an : Option Addr} {osl : Array (Option Value)} {kV doc pm cdv c2 : Value} (a : PySem.W.findIn K (.ref C) m = some (some (.ref f))) (i : PySem.W.isFn K (.ref f) = true)
    (l : K.lookup f = some ⟨oc, od, .func (PySem.W.fnOf m qual (defArgs st) (defBody st) (defScope st) .none kV doc pm an cdv c2), osl⟩) (c : PySem.W.codeIn K cdv qual = true) (k : PySem.W.keepIn K (.ref f) = true)
    (hb : ∀ (kV doc pm : Value) (an : Option Addr) (cdv ct : Value) (us : List Value), us.length = ps.length → bindArgs (PySem.W.fnOf m qual (defArgs st) (defBody st) (defScope st) .none kV doc pm an cdv ct) ⟨us, []⟩ = pure (ps.zip us)) : MtF K C m qual st ps :=
  have F := fun_mk (st := st) l c k
  ⟨f, _, F, ⟨a, i, k⟩, F.binds hb⟩
theorem inf_mk {f : Addr} {oc : Value} {od an : Option Addr} {osl : Array (Option Value)} {kV doc pm cdv c2 : Value} (mk : PySem.W.makesIn K C = true) (kc : PySem.W.keepIn K (.ref C) = true) (a : PySem.W.findIn K (.ref C) "__init__" = some (some (.ref f))) (i : PySem.W.isFn K (.ref f) = true)
    (l : K.lookup f = some ⟨oc, od, .func (PySem.W.fnOf "__init__" qual (defArgs st) (defBody st) (defScope st) .none kV doc pm an cdv c2), osl⟩) (c : PySem.W.codeIn K cdv qual = true) (k : PySem.W.keepIn K (.ref f) = true)
    (hb : ∀ (kV doc pm : Value) (an : Option Addr) (cdv ct : Value) (us : List Value), us.length = ps.length → bindArgs (PySem.W.fnOf "__init__" qual (defArgs st) (defBody st) (defScope st) .none kV doc pm an cdv ct) ⟨us, []⟩ = pure (ps.zip us)) : InF K C qual st ps :=
  have F := fun_mk (st := st) l c k
  ⟨f, _, F, ⟨mk, a, i, kc⟩, F.binds hb⟩
end
/-- fields -/
def putFD (f : Str) (v : D) : List (Str × D) → List (Str × D)
  | [] => [(f, v)]
  | (g, x) :: r => if g = f then (g, v) :: r else (g, x) :: putFD f v r
abbrev FdP (K : Frag) (H : Hp) : List (Str × V) → List (Str × D) → Prop := Paired fun (p : Str × V) (q : Str × D) => p.1 = q.1 ∧ Rp K H p.2 q.2
theorem fd_look {K : Frag} {H : Hp} {f : Str} : ∀ {gs : List (Str × V)} {fs : List (Str × D)}, FdP K H gs fs → (fs.lookup f = none → gs.lookup f = none) ∧ ∀ d, fs.lookup f = some d → ∃ v, gs.lookup f = some v ∧ Rp K H v d
  | _, _, .nil => ⟨fun _ => rfl, fun d h => (nomatch h)⟩
  | (x, v) :: gs, (y, d) :: fs, .cons h t => by
    obtain ⟨e, r⟩ := h
    have e : x = y := e
    subst e
    by_cases g : f = x
    · subst g
      rw [List.lookup_cons_self, List.lookup_cons_self]
      exact ⟨(fun h => nomatch h), fun d' h => ⟨v, rfl, by cases h; exact r⟩⟩
    · have ne : (f == x) = false := beq_eq_false_iff_ne.mpr g
      rw [List.lookup_cons, List.lookup_cons, ne]
      exact fd_look t
theorem fd_put {K : Frag} {H : Hp} {f : Str} {v : V} {d : D} (r : Rp K H v d) : ∀ {gs : List (Str × V)} {fs : List (Str × D)}, FdP K H gs fs → FdP K H (putF f v gs) (putFD f d fs)
  | _, _, .nil => .cons ⟨rfl, r⟩ .nil
  | (x, u) :: gs, (y, z) :: fs, .cons h t => by
    have e : x = y := h.1
    subst e
    show FdP K H (if x = f then (x, v) :: gs else (x, u) :: putF f v gs) (if x = f then (x, d) :: fs else (x, z) :: putFD f d fs)
    by_cases g : x = f
    · rw [if_pos g, if_pos g]; exact .cons ⟨rfl, r⟩ t
    · rw [if_neg g, if_neg g]; exact .cons h (fd_put r t)
theorem Rel.ins {K : Frag} {A : AH} {H : Hp} {p C dx : Addr} {fs : List (Str × D)} (r : Rel K A H) (h : A p = some (.ins C dx fs)) : ∃ gs, H p = some (.ins C dx gs) ∧ FdP K H gs fs := by
  obtain ⟨u, e1, gs, e2, e3⟩ := r p _ h
  rw [e2] at e1
  exact ⟨gs, e1, e3⟩
section
variable {X : Cx} {W : WX} {ρ : Ro} {A : AH} {e o : Expr} {es : List Expr} {pos apos p0 : Pos} {d : D} {k : AK} {E : AEnds} {lv : Nat} {p C dx : Addr} {fs : List (Str × D)} {f n m : Str} {ct : Ct} {ds : List D} {xc : Value → AH → Prop}
theorem av_fld (c : Cls X.K C) (na : NoAttr X.K C f) (ho : AV X o ρ A (.ref p)) (hl : A p = some (.ins C dx fs)) (h : fs.lookup f = some d) (hb : attributeBase o f X.env (eval o X.env) = eval o X.env := by rfl) : AV X (.Attribute o f pos) ρ A d := fun σ H s Q q =>
  tm_of (pe_fld (pe_tm o) hb) (ho σ H s _ fun v H1 t1 r1 l1 => by
    obtain ⟨gs, e1, e2⟩ := l1.ins hl
    obtain ⟨v', e3, e4⟩ := (fd_look e2).2 d h
    exact ⟨p, C, dx, gs, v', r1.ref_of, e1, c, na, e3, q v' H1 t1 e4 l1⟩)
/-- o.f = e -/
theorem a1_fld {pos' : Pos} (c : Cls X.K C) (na : NoAttr X.K C f) (h : AV X e ρ A d) (ho : AV X o ρ A (.ref p)) (hl : A p = some (.ins C dx fs)) (hn : fs.length < 1000) (q : E.nx ρ (aupd A p (.ins C dx (putFD f d fs)))) (hs : swapsWith e (some (.Attribute o f pos')) pos.line X.env = pure false := by rfl) :
    A1 X W (.Assign [.Attribute o f pos'] e pos) ρ A E := fun σ H s D qq =>
  tm1_of (ps_fld (pe_tm o) (pe_tm e) hs) (h σ H s _ fun v H1 t1 r1 l1 => ho σ H1 (s.mono t1 l1) _ fun u H2 t2 r2 l2 => by
    obtain ⟨gs, e1, e2⟩ := l2.ins hl
    have t3 : TS H2 (upd H2 p (.ins C dx (putF f v gs))) := TS.put e1 (fun _ z => nomatch z) (fun _ _ z => nomatch z)
    have l3 : Rel X.K (aupd A p (.ins C dx (putFD f d fs))) (upd H2 p (.ins C dx (putF f v gs))) := l2.put e1 (fun _ z => nomatch z) (fun _ _ z => nomatch z) ⟨_, rfl, Paired.mapP (fd_put (r1.mono t2) e2) fun _ _ z => ⟨z.1, z.2.mono t3⟩⟩
    exact ⟨p, C, dx, gs, r2.ref_of, e1, c, na, by rw [Paired.length e2]; exact hn, qq.nx ρ _ σ _ ((t1.trans t2).trans t3) (s.mono ((t1.trans t2).trans t3) l3) q⟩)
theorem mkT {H : Hp} {vs : List V} {A1 : AH} (l : Rel X.K A1 H) {x y : Addr} (hx : H x = none) (hy : H y = none) (ne : y ≠ x) : TS H (upd (upd H y (.own x)) x (.ins C y [])) ∧ Rel X.K (aupd A1 x (.ins C y [])) (upd (upd H y (.own x)) x (.ins C y [])) := by
  have hx' : upd H y (.own x) x = none := by rw [upd_ne (fun e => ne e.symm)]; exact hx
  exact ⟨(TS.new hy).trans (TS.new hx'), (l.newAny hy).new hx' ⟨[], rfl, .nil⟩⟩
theorem ae_mk (F : Ini X.prog X.w X.K X.mg X.base C lv ct) (hm : X.mg n = some (.ref C)) (hr : Room (lv + 1) X.A) (hg : Gl X n) (h : AEs X (e :: es) ρ A fun ds A1 => ∀ x y, A1 x = none → ct (.ref x :: ds) (aupd A1 x (.ins C y [])) (fun d A2 => d = .non ∧ k (.ref x) A2) fun _ _ => False)
    (hdb : (n == ("__debug__" : Str)) = false := by decide) (he : starEach (e :: es) X.env = (false, eval e X.env) :: starEach es X.env := by rfl) (hpl : (backTo pos (starEach es X.env)).any (·.1) = false := by rfl) : AE X (.Call (.Name n p0) (e :: es) [] pos) ρ A k := fun σ H s Q q => by
  obtain ⟨f, fd, ps, F, M, hb⟩ := F.ex
  refine tm_of (pe_mkX (E := fun _ => E0) M F hr hg hm hb (fun σ => fun pins H s e s' I c => passN pins σ H s e s' I c) (pa_tm (e :: es)) hdb he hpl) (h σ H s _ fun vs H1 ds A1 t1 r1 l1 h1 x y hx hy ne => ?_)
  obtain ⟨t2, l2⟩ := mkT (vs := vs) (C := C) l1 hx hy ne
  exact ⟨.ref x :: ds, _, _, fun _ _ => False, .cons (.ref x) (r1.mono t2), l2, h1 x y (l1.none hx), fun v H' d A' t3 r3 l3 ⟨ed, k3⟩ => ⟨by rw [ed] at r3; exact r3.non_of, q _ H' _ A' ((t1.trans t2).trans t3) (.ref x) l3 k3⟩, fun _ _ _ _ _ z => z⟩
theorem aex_mk (F : Ini X.prog X.w X.K X.mg X.base C lv ct) (tk : L2N.Takes X W) (hm : X.mg n = some (.ref C)) (hr : Room (lv + 1) X.A) (hg : Gl X n) (h : AEs X (e :: es) ρ A fun ds A1 => ∀ x y, A1 x = none → ct (.ref x :: ds) (aupd A1 x (.ins C y [])) (fun d A2 => d = .non ∧ k (.ref x) A2) xc)
    (hdb : (n == ("__debug__" : Str)) = false := by decide) (he : starEach (e :: es) X.env = (false, eval e X.env) :: starEach es X.env := by rfl) (hpl : (backTo pos (starEach es X.env)).any (·.1) = false := by rfl) : AEx X W (.Call (.Name n p0) (e :: es) [] pos) ρ A xc k := fun σ H s Q q hx0 => by
  obtain ⟨f, fd, ps, F, M, hb⟩ := F.ex
  refine tm_of (pe_mkX (E := WE W) M F hr hg hm hb (fun σ => L2N.passAt tk σ) (pa_tm (e :: es)) hdb he hpl) (h σ H s _ fun vs H1 ds A1 t1 r1 l1 h1 x y hx hy ne => ?_)
  obtain ⟨t2, l2⟩ := mkT (vs := vs) (C := C) l1 hx hy ne
  exact ⟨.ref x :: ds, _, _, xc, .cons (.ref x) (r1.mono t2), l2, h1 x y (l1.none hx), fun v H' d A' t3 r3 l3 ⟨ed, k3⟩ => ⟨by rw [ed] at r3; exact r3.non_of, q _ H' _ A' ((t1.trans t2).trans t3) (.ref x) l3 k3⟩, fun c H' A' t3 l3 k3 => hx0 c H' A' ((t1.trans t2).trans t3) l3 k3⟩
theorem ae_mt (F : Mt X.prog X.w X.K X.mg X.base C m lv ct) (c : Cls X.K C) (hr : Room lv X.A) (ho : AV X o ρ A (.ref p)) (hl : A p = some (.ins C dx fs)) (hn : fs.lookup m = none) (h : AEs X (e :: es) ρ A fun ds A1 => ct (.ref p :: ds) A1 k fun _ _ => False)
    {pl : Sem Bool} (hst : starEach (e :: es) X.env = (false, eval e X.env) :: starEach es X.env := by rfl) (hpl : (backTo pos (starEach es X.env)).any (·.1) = false := by rfl)
    (ht : eval (.Call (.Attribute o m apos) (e :: es) [] pos) X.env = (eval o X.env >>= fun ov => standAt apos.atName >>= fun _ => holding [ov] (getMethod ov m pl) >>= fun z => callWith pos z.1 z.2 (backTo pos (starEach (e :: es) X.env)) (backToKw pos (keywordEach [] X.env))) := by rfl) : AE X (.Call (.Attribute o m apos) (e :: es) [] pos) ρ A k := fun σ H s Q q => by
  obtain ⟨f, fd, ps, F, M, hb⟩ := F.ex
  refine tm_of (pe_mtX (E := fun _ => E0) (pe_tm o) c M F hr hb (fun σ => fun pins H s e s' I c => passN pins σ H s e s' I c) (pa_tm (e :: es)) hst hpl ht) (ho σ H s _ fun v H1 t1 r1 l1 => ?_)
  obtain ⟨gs, e1, e2⟩ := l1.ins hl
  refine ⟨p, dx, gs, r1.ref_of, e1, (fd_look e2).1 hn, h σ H1 (s.mono t1 l1) _ fun vs H2 ds A2 t2 r2 l2 h2 => ?_⟩
  rw [r1.ref_of]
  exact ⟨.ref p :: ds, A2, k, fun _ _ => False, .cons (.ref p) r2, l2, h2, fun v H' d A' t3 r3 l3 k3 => q v H' d A' ((t1.trans t2).trans t3) r3 l3 k3, fun _ _ _ _ _ z => z⟩
theorem aex_mt (F : Mt X.prog X.w X.K X.mg X.base C m lv ct) (tk : L2N.Takes X W) (c : Cls X.K C) (hr : Room lv X.A) (ho : AV X o ρ A (.ref p)) (hl : A p = some (.ins C dx fs)) (hn : fs.lookup m = none) (h : AEs X (e :: es) ρ A fun ds A1 => ct (.ref p :: ds) A1 k xc)
    {pl : Sem Bool} (hst : starEach (e :: es) X.env = (false, eval e X.env) :: starEach es X.env := by rfl) (hpl : (backTo pos (starEach es X.env)).any (·.1) = false := by rfl)
    (ht : eval (.Call (.Attribute o m apos) (e :: es) [] pos) X.env = (eval o X.env >>= fun ov => standAt apos.atName >>= fun _ => holding [ov] (getMethod ov m pl) >>= fun z => callWith pos z.1 z.2 (backTo pos (starEach (e :: es) X.env)) (backToKw pos (keywordEach [] X.env))) := by rfl) : AEx X W (.Call (.Attribute o m apos) (e :: es) [] pos) ρ A xc k := fun σ H s Q q hx0 => by
  obtain ⟨f, fd, ps, F, M, hb⟩ := F.ex
  refine tm_of (pe_mtX (E := WE W) (pe_tm o) c M F hr hb (fun σ => L2N.passAt tk σ) (pa_tm (e :: es)) hst hpl ht) (ho σ H s _ fun v H1 t1 r1 l1 => ?_)
  obtain ⟨gs, e1, e2⟩ := l1.ins hl
  refine ⟨p, dx, gs, r1.ref_of, e1, (fd_look e2).1 hn, h σ H1 (s.mono t1 l1) _ fun vs H2 ds A2 t2 r2 l2 h2 => ?_⟩
  rw [r1.ref_of]
  exact ⟨.ref p :: ds, A2, k, xc, .cons (.ref p) r2, l2, h2, fun v H' d A' t3 r3 l3 k3 => q v H' d A' ((t1.trans t2).trans t3) r3 l3 k3, fun c H' A' t3 l3 k3 => hx0 c H' A' ((t1.trans t2).trans t3) l3 k3⟩
theorem ae_mt0 (F : Mt X.prog X.w X.K X.mg X.base C m lv ct) (c : Cls X.K C) (hr : Room lv X.A) (ho : AV X o ρ A (.ref p)) (hl : A p = some (.ins C dx fs)) (hn : fs.lookup m = none) (h : ct [.ref p] A k fun _ _ => False)
    {pl : Sem Bool} (ht : eval (.Call (.Attribute o m apos) [] [] pos) X.env = (eval o X.env >>= fun ov => standAt apos.atName >>= fun _ => holding [ov] (getMethod ov m pl) >>= fun z => callWith pos z.1 z.2 (backTo pos (starEach [] X.env)) (backToKw pos (keywordEach [] X.env))) := by rfl) : AE X (.Call (.Attribute o m apos) [] [] pos) ρ A k := fun σ H s Q q => by
  obtain ⟨f, fd, ps, F, M, hb⟩ := F.ex
  refine tm_of (pe_mtX0 (E := fun _ => E0) (pe_tm o) c M F hr hb (fun σ => fun pins H s e s' I c => passN pins σ H s e s' I c) ht) (ho σ H s _ fun v H1 t1 r1 l1 => ?_)
  obtain ⟨gs, e1, e2⟩ := l1.ins hl
  refine ⟨p, dx, gs, r1.ref_of, e1, (fd_look e2).1 hn, ?_⟩
  rw [r1.ref_of]
  exact ⟨[.ref p], A, k, fun _ _ => False, .one (.ref p), l1, h, fun v H' d A' t3 r3 l3 k3 => q v H' d A' (t1.trans t3) r3 l3 k3, fun _ _ _ _ _ z => z⟩
end
end C7
namespace C7
open PySem PySem.Spec PyProof.Rows L2
theorem Fn.alias {P : Program} {w : World} {K : Frag} {mg : Str → Option Value} {base : Heap} {x y : Str} {k : Nat} {ct : Ct} (F : Fn P w K mg base x k ct) (h : mg y = mg x) : Fn P w K mg base y k ct :=
  let ⟨f, fd, ps, F, m, r⟩ := F.ex; ⟨f, fd, ps, F, h.trans m, r⟩
end C7
namespace C7
open PySem PySem.Spec PyProof.Rows L2
theorem a1_asgx {X : Cx} {W : WX} {ρ : Ro} {A : AH} {e : Expr} {pos : Pos} {E : AEnds} {tg : Expr} {is : List Nat} (h : AEx X W e ρ A (fun c A' => E.xc c ρ A') fun d A' => ∃ ρ', AG X tg is ρ d ρ' ∧ E.nx ρ' A') (hs : swapsWithSole [tg] e pos.line X.env = pure false := by rfl) (hw : swappedStores [tg] e X.env = pure none := by rfl)
    (h1 : (assignEach [tg] X.env).map (·.2) = [assign tg X.env] := by rfl) : A1 X W (.Assign [tg] e pos) ρ A E := fun σ H s D q =>
  tm1_of (ps_asg (pe_tm e) (pg_tm tg) hs hw h1) (h σ H s _ (fun v H' d A' t r l ⟨ρ', g, kd⟩ => g v σ H' A' (s.mono t l) r _ fun σ' _ _ s' => q.nx ρ' A' σ' H' t s' kd) fun c H' A' t l kd => q.xc c ρ A' σ H' t (s.mono t l) kd)
end C7
namespace C7
open PySem PySem.Spec PyProof.Rows L2
/-! ### a new list of new lists -/
structure NQ (A : AH) (r : Addr) (ps : List Addr) (A' : AH) (Q : Nat → List D → Prop) : Prop where
  x : Ext A A'
  r0 : A r = none
  rl : A' r = some (.lst (ps.map D.ref))
  nr : r ∉ ps
  el : ∀ i p, ps[i]? = some p → A p = none ∧ ∃ ds, A' p = some (.lst ds) ∧ Q i ds
structure NL (A : AH) (r : Addr) (ps : List Addr) (A' : AH) (rs : List (List D)) : Prop where
  q : NQ A r ps A' fun i ds => ds = rs.getD i []
  len : ps.length = rs.length
  nd : ps.Nodup
theorem NQ.mono {A : AH} {r : Addr} {ps : List Addr} {A' : AH} {Q Q' : Nat → List D → Prop} (h : NQ A r ps A' Q) (hq : ∀ i ds, i < ps.length → Q i ds → Q' i ds) : NQ A r ps A' Q' :=
  ⟨h.x, h.r0, h.rl, h.nr, fun i p e => ⟨(h.el i p e).1, let ⟨ds, h1, h2⟩ := (h.el i p e).2; ⟨ds, h1, hq i ds (by rw [List.getElem?_eq_some_iff] at e; exact e.1) h2⟩⟩⟩
/-- one of the rows is written -/
theorem NQ.put {A : AH} {r : Addr} {ps : List Addr} {A' : AH} {Q Q' : Nat → List D → Prop} (h : NQ A r ps A' Q) {i : Nat} {p : Addr} {ds : List D} (hp : ps[i]? = some p) (h1 : ∀ j, ps[j]? = some p → Q' j ds) (h2 : ∀ j q ds, ps[j]? = some q → q ≠ p → Q j ds → Q' j ds) : NQ A r ps (aupd A' p (.lst ds)) Q' := by
  have hA := (h.el i p hp).1
  have ne : r ≠ p := fun e => h.nr (by rw [e]; exact List.mem_of_getElem? hp)
  refine ⟨h.x.put hA, h.r0, by rw [aupd_ne ne]; exact h.rl, h.nr, fun j q hq => ⟨(h.el j q hq).1, ?_⟩⟩
  by_cases e : q = p
  · subst e; exact ⟨ds, aupd_same, h1 j hq⟩
  · obtain ⟨es, e1, e2⟩ := (h.el j q hq).2
    exact ⟨es, by rw [aupd_ne e]; exact e1, h2 j q es hq e e2⟩
theorem NL.get {A : AH} {r : Addr} {ps : List Addr} {A' : AH} {rs : List (List D)} (h : NL A r ps A' rs) {i : Nat} (hi : i < rs.length) : ∃ p, ps[i]? = some p ∧ A' p = some (.lst (rs.getD i [])) := by
  have : i < ps.length := by rw [h.len]; exact hi
  refine ⟨ps[i], List.getElem?_eq_getElem this, ?_⟩
  obtain ⟨_, ds, h1, h2⟩ := h.q.el i _ (List.getElem?_eq_getElem this)
  rw [← h2]; exact h1
theorem NL.frs {A : AH} {A' : AH} : ∀ (ps : List Addr) (rs : List (List D)), ps.length = rs.length → (∀ i p, ps[i]? = some p → A p = none ∧ ∃ ds, A' p = some (.lst ds) ∧ ds = rs.getD i []) → Frs A A' (ps.map D.ref) (rs.map D.fz)
  | [], [], _, _ => .nil
  | p :: ps, d :: rs, e, h => by
    obtain ⟨h0, ds, h1, h2⟩ := h 0 p rfl
    have h2 : ds = d := h2
    subst h2
    exact .cons (.lst h0 h1 (Frs.refl _)) (NL.frs ps rs (by simpa using e) fun i q hq => h (i + 1) q hq)
  | [], _ :: _, e, _ => nomatch e
  | _ :: _, [], e, _ => nomatch e
theorem NL.fr {A : AH} {r : Addr} {ps : List Addr} {A' : AH} {rs : List (List D)} (h : NL A r ps A' rs) : Fr A A' (.ref r) (.fz (rs.map D.fz)) := .lst h.q.r0 h.q.rl (NL.frs ps rs h.len h.q.el)
theorem NL.kz {A : AH} {r : Addr} {ps : List Addr} {A' : AH} {rs : List (List D)} (h : NL A r ps A' rs) {k : AK} (q : k (.fz (rs.map D.fz)) A) : ∃ A0 v, Ext A0 A' ∧ Fr A0 A' (.ref r) v ∧ k v A0 := ⟨A, _, h.q.x, h.fr, q⟩
/-- d is a list of lists -/
def IsLL (A : AH) (d : D) (rs : List (List D)) : Prop := ∃ ds, IsL A d ds ∧ ds.length = rs.length ∧ ∀ i, i < rs.length → IsL A (ds.getD i .non) (rs.getD i [])
theorem NL.ll {A : AH} {r : Addr} {ps : List Addr} {A' : AH} {rs : List (List D)} (h : NL A r ps A' rs) : IsLL A' (.ref r) rs := by
  refine ⟨ps.map D.ref, IsL.of h.q.rl, by rw [List.length_map]; exact h.len, fun i hi => ?_⟩
  obtain ⟨p, h1, h2⟩ := h.get hi
  rw [List.getD_eq_getElem?_getD, List.getElem?_map, h1]
  exact IsL.of h2
theorem IsLL.fz {A : AH} {rs : List (List D)} : IsLL A (.fz (rs.map D.fz)) rs := by
  refine ⟨rs.map D.fz, IsL.fz, by simp, fun i hi => ?_⟩
  rw [List.getD_eq_getElem?_getD, List.getElem?_map, List.getD_eq_getElem?_getD, List.getElem?_eq_getElem hi]
  exact IsL.fz
theorem IsLL.ext {A A' : AH} {d : D} {rs : List (List D)} (h : IsLL A d rs) (e : Ext A A') : IsLL A' d rs :=
  let ⟨ds, h1, h2, h3⟩ := h; ⟨ds, h1.ext e, h2, fun i hi => (h3 i hi).ext e⟩
section
variable {α : Type} [DecidableEq α] (e : Enc α)
theorem pysLL {A : AH} : ∀ (ds : List D) (xss : List (List α)), ds.length = xss.length → (∀ i, i < xss.length → IsL A (ds.getD i .non) ((xss.getD i []).map e.d)) → Pys A ds (xss.map fun xs => PyData.list (xs.map e.p))
  | [], [], _, _ => .nil
  | d :: ds, xs :: xss, l, h => .cons (pyL e (h 0 (Nat.succ_pos _))) (pysLL ds xss (by simpa using l) fun i hi => h (i + 1) (Nat.succ_lt_succ hi))
  | [], _ :: _, l, _ => nomatch l
  | _ :: _, [], l, _ => nomatch l
theorem IsLL.py {A : AH} {d : D} {xss : List (List α)} (h : IsLL A d (xss.map fun xs => xs.map e.d)) : Py A d (PyData.list (xss.map fun xs => PyData.list (xs.map e.p))) := by
  obtain ⟨ds, h1, h2, h3⟩ := h
  refine .lst h1 (pysLL e ds xss (by simpa using h2) fun i hi => ?_)
  have := h3 i (by simpa using hi)
  rw [List.getD_eq_getElem?_getD, List.getD_eq_getElem?_getD, List.getElem?_map, List.getElem?_eq_getElem hi] at this
  rw [List.getD_eq_getElem?_getD, List.getD_eq_getElem?_getD, List.getElem?_eq_getElem hi]
  exact this
end
section
variable {X : Cx} {W : WX} {ρ : Ro} {A : AH} {pos : Pos} {k : AK}
/-- [.. for ..] each of which is a new list -/
theorem ac_lcL {tg iter elt : Expr} {is : List Nat} {scope : Scope} {own : List (Str × Nat)} {g : Nat → List D} {n : Nat} (hsub : ∀ i ∈ is, i ∈ own.map (·.2))
    (hi : AI X tg iter ρ A fun A1 G n' f => n' = n ∧ Ext A A1 ∧ n ≤ sizeLine ∧ (∀ A', Ext A1 A' → G A') ∧
      ∀ i, i < n → ∃ ρ2, ∀ (s : Shared) (H : Hp) (C : Addr) (cl : List (Str × Addr)) (fp : List Addr), AG (X.blk s H scope (compEnvC scope cl C X.env) fp) tg is (wipeR ρ (own.map (·.2))) (f i) ρ2 ∧ ∀ A', Ext A1 A' → AL (X.blk s H scope (compEnvC scope cl C X.env) fp) elt ρ2 A' (g i))
    (q : ∀ r ps A', NL A r ps A' ((List.range n).map g) → k (.ref r) A') : AC X elt tg iter scope own ρ A k := by
  refine ac_lc (is := is) hsub ?_
  intro σ H s R hR
  refine hi σ H s R fun J H' A1 G n' f t l wk ⟨en, ex, hn, hG, hb⟩ => hR J H' A1 G n' f t l wk ?_
  subst en
  refine ⟨hn, fun p i acc A' => ∃ ps : List Addr, acc = ps.map D.ref ∧ ps.length = i ∧ Ext A1 A' ∧ A1 p = none ∧ A' p = some (.lst acc) ∧ p ∉ ps ∧ ps.Nodup ∧ ∀ j q, ps[j]? = some q → A1 q = none ∧ A' q = some (.lst (g j)), ?_, ?_, ?_, ?_⟩
  · intro p hp
    exact ⟨[], rfl, rfl, Ext.new hp, hp, aupd_same, by simp, List.nodup_nil, fun j q h => by simp at h⟩
  · rintro p i acc A' hle ⟨ps, rfl, e2, e3, _⟩
    exact ⟨hG A' e3, by rw [List.length_map]; exact e2⟩
  · rintro p i acc A' hlt ⟨ps, rfl, e2, e3, e4, e5, e6, e7, e8⟩
    obtain ⟨ρ2, hb⟩ := hb i hlt
    refine ⟨ρ2, fun s H C cl fp => ⟨(hb s H C cl fp).1, ((hb s H C cl fp).2 A' e3).ae fun z hz => ?_⟩⟩
    have zp : p ≠ z := fun e => by rw [← e, e5] at hz; cases hz
    have zps : z ∉ ps := fun hm => by
      obtain ⟨j, hj⟩ := List.getElem?_of_mem hm
      rw [(e8 j z hj).2] at hz; cases hz
    refine ⟨by rw [aupd_ne zp]; exact e5, ps ++ [z], by rw [List.map_append]; rfl, by rw [List.length_append, e2]; rfl, (e3.trans (Ext.new hz)).put e4, e4, aupd_same, ?_, ?_, ?_⟩
    · rw [List.mem_append, List.mem_singleton]; exact fun h => h.elim e6 zp
    · exact List.nodup_append.mpr ⟨e7, by simp, fun a ha b hb => by rw [List.mem_singleton.mp hb]; exact fun e => zps (e ▸ ha)⟩
    · intro j y hy
      by_cases hj : j < ps.length
      · rw [List.getElem?_append_left hj] at hy
        obtain ⟨h1, h2⟩ := e8 j y hy
        have ym : y ∈ ps := List.mem_of_getElem? hy
        have n1 : y ≠ p := fun e => e6 (by rw [← e]; exact ym)
        have n2 : y ≠ z := fun e => zps (by rw [← e]; exact ym)
        exact ⟨h1, by rw [aupd_ne n1, aupd_ne n2]; exact h2⟩
      · rw [List.getElem?_append_right (by omega)] at hy
        have ej : j = ps.length := by
          have := (List.getElem?_eq_some_iff.mp hy).1
          simp at this; omega
        subst ej
        rw [Nat.sub_self] at hy
        cases hy
        exact ⟨e3.none hz, by rw [aupd_ne (show z ≠ p from fun e => zp e.symm), aupd_same, e2]⟩
  · rintro p acc A' ⟨ps, rfl, e2, e3, e4, e5, e6, e7, e8⟩
    refine q p ps A' ⟨⟨ex.trans e3, ex.none e4, e5, e6, fun i y hy => ⟨ex.none (e8 i y hy).1, _, (e8 i y hy).2, ?_⟩⟩, by simp [e2], e7⟩
    have hi : i < ps.length := (List.getElem?_eq_some_iff.mp hy).1
    rw [List.getD_eq_getElem?_getD, List.getElem?_map, List.getElem?_range (by omega)]; rfl
theorem NQ.new {r : Addr} {ps : List Addr} {A' : AH} {Q : Nat → List D → Prop} (h : NQ A r ps A' Q) {x : Addr} {o : AO} (hx : A' x = none) : NQ A r ps (aupd A' x o) Q := by
  have e := Ext.new (o := o) hx
  exact ⟨h.x.trans e, h.r0, e _ _ h.rl, h.nr, fun i p hp => ⟨(h.el i p hp).1, let ⟨ds, h1, h2⟩ := (h.el i p hp).2; ⟨ds, e _ _ h1, h2⟩⟩⟩
theorem NQ.ne {r : Addr} {ps : List Addr} {A' : AH} {Q : Nat → List D → Prop} (h : NQ A r ps A' Q) {x : Addr} (hx : A' x = none) : x ≠ r ∧ ∀ p ∈ ps, x ≠ p := by
  refine ⟨fun e => (by rw [e, h.rl] at hx; cases hx), fun p hp e => ?_⟩
  obtain ⟨i, hi⟩ := List.getElem?_of_mem hp
  obtain ⟨_, ds, h1, _⟩ := h.el i p hi
  rw [e, h1] at hx; cases hx
section
variable {α : Type} [DecidableEq α] (e : Enc α)
theorem av_eqLL {lv : Nat} {a b : Expr} {xss yss : List (List α)} (he : ∀ x, (e.p x).depth ≤ 10) (he2 : ∀ x, ((eL e he).p x).depth ≤ 10) (hr : Room lv X.A) (ha : ∀ k : AK, (∀ r ps A', NL A r ps A' (xss.map fun xs => xs.map e.d) → k (.ref r) A') → AE X a ρ A k) (hb : ∀ A', Ext A A' → AV X b ρ A' (.fz (yss.map fun ys => D.fz (ys.map e.d)))) :
    AV X (.Compare a [.Eq] [b] pos) ρ A (.bl (decide (xss = yss))) := by
  rw [← (eL (eL e he) he2).eqv]
  exact AE.av (ae_eqP hr (ha _ fun r ps A' h => (hb A' h.q.x).ae ⟨_, _, h.ll.py e, (eL (eL e he) he2).py A' yss, (eL (eL e he) he2).shp xss, (eL (eL e he) he2).shp yss, rfl, h.q.x⟩))
end
/-- what is known of new lists is left -/
theorem as_weak {A0 : AH} {sts : List Stmt} {E : AEnds} (x : Ext A0 A) (h : AS X W sts ρ A0 E) : AS X W sts ρ A E := fun σ H s D q => h σ H ⟨s.len, s.val, fun a o e => s.hp a o (x a o e)⟩ D q
end
end C7
namespace C7
open PySem PySem.Spec PyProof.Rows L2
/-! ### isinstance of the caught error, with a tuple of classes -/
def rIsET (K : Frag) (D a : Addr) (xs : List V) (H : Hp) (Q : VK) : Prop := ∃ tp cs us b, xs = [V.ref a, V.ref tp] ∧ SqT K H tp cs ∧ Paired ClsV cs us ∧ PySem.W.kitAny K (.ref D) us = some b ∧ Q (.bl b) H
theorem call_isET {X : Cx} {a D : Addr} {oe : Obj} {pn : List (Addr × Obj)} (C : L2.ExcC X.K D) (hz : L2.Zc (.ref D) none oe) (hf : ∃ vs, oe.data = .fields vs) : CallR (X.suite a ((a, oe) :: pn)) (.builtin "isinstance") (rIsET X.K D a) := by
  intro pins s σ H xs us Q I r h
  obtain ⟨tp, cs, ts, b, rfl, ht, hc, hk, q⟩ := h
  obtain ⟨u, v, rfl, ru, rv⟩ := vals2 r
  obtain rfl : u = .ref a := ru
  obtain rfl : v = .ref tp := rv
  obtain ⟨its, rr, ⟨o, ho, hcls, n, hd⟩, hl⟩ := I.tuple ht
  have e := ClsV.all hc rr
  subst e
  obtain ⟨hget, _⟩ := I.pin (a, oe) (List.mem_append.mpr (.inl List.mem_cons_self))
  obtain ⟨fv, hv⟩ := hf
  have J : PySem.W.InstAt s.heap a oe D none := by
    refine ⟨hget, hz.1, ?_, ?_⟩
    · unfold PySem.W.notCls; rw [hv]
    · rw [hz.2]; trivial
  obtain ⟨oc, od, dt, sl⟩ := o
  dsimp only at hcls hd
  subst hcls hd
  exact PySem.W.kia_tup (PySem.W.handS_kitx_exc C.hg C.hk C.hs C.hd C.ha C.hn C.ht C.hm) I.kIn J ho hk (by intro h; cases h) fun tk => ⟨.bl b, H, I.kept fun _ _ z => z, rfl, q⟩
theorem clsv {K : Frag} {H : Hp} : ∀ {vs : List V} {Cs : List Addr}, Rps K H vs (Cs.map D.ref) → Paired ClsV vs (Cs.map Value.ref)
  | _, [], .nil => .nil
  | _, C :: Cs, .cons r rs => .cons (by rw [r.ref_of]; exact .own C) (clsv rs)
section
variable {X : Cx} {ρ : Ro} {A : AH} {a b : Expr} {pos p0 : Pos} {D0 p : Addr} {oe : Obj} {pn : List (Addr × Obj)}
theorem kitAny_none {K : Frag} {t : Value} : ∀ {cs : List Value}, (∀ c ∈ cs, PySem.W.kitOne K t c = some false) → PySem.W.kitAny K t cs = some false
  | [], _ => rfl
  | c :: cs, h => by
    have h1 := h c List.mem_cons_self
    have h2 := kitAny_none fun d hd => h d (List.mem_cons_of_mem c hd)
    unfold PySem.W.kitAny
    simp only [h1, h2]
    try rfl
theorem av_isET {Cs : List Addr} (C : ExcC X.K D0) (hz : L2N.Zn (.ref D0) none oe) (hf : ∃ vs, oe.data = .fields vs) (hg : Gl X "isinstance") (hm : X.mg "isinstance" = none)
    (ha : AVs (X.suite p ((p, oe) :: pn)) [a, b] ρ A [.ref p, .tup (Cs.map D.ref)]) (hk : ∀ c ∈ Cs, PySem.W.kitOne X.K (.ref D0) (.ref c) = some false)
    (hs : starEach [a, b] X.env = (false, eval a X.env) :: starEach [b] X.env := by rfl) (hpl : (backTo pos (starEach [b] X.env)).any (·.1) = false := by rfl) :
    AV (X.suite p ((p, oe) :: pn)) (.Call (.Name "isinstance" p0) [a, b] [] pos) ρ A (.bl false) :=
  av_callB (call_isET C hz.zc hf) hg hm (by decide +kernel) ha (fun vs H r l Q q => by
    obtain ⟨v, v', rfl, r1, r2⟩ := rps2 r
    obtain ⟨tp, cs, rfl, h1, h2⟩ := r2.tup_of
    rw [r1.ref_of]
    refine ⟨tp, cs, Cs.map Value.ref, false, rfl, h1, clsv h2, kitAny_none fun c hc => ?_, q _ H (TS.refl H) (.bl _) l⟩
    rw [List.mem_map] at hc
    obtain ⟨c', hc', rfl⟩ := hc
    exact hk c' hc') (he := hs) (hpl := hpl)
end
end C7
namespace C7
open PySem PySem.Spec PyProof.Rows L2
/-! ### dicts whose keys are tuples: setdefault, the list of the keys -/
section
variable {X : Cx} {pins : List (Addr × Obj)} {σ : L2.St} {H : Hp} {s : Shared}
theorem dkO_ty (I : Inv X pins σ H s) {a : Addr} {xs : List (NestedKey × Addr × Value)} (h : H a = some (DkO X.prog X.w a xs)) :
    s.TypeIs (.ref a) "dict" ∧ ∀ b, Value.ref a = .ref b → ∃ ob, s.heap.get? b = some ob ∧ ob.dict = none := by
  obtain ⟨h0, o, es, ep, h1, h2, h3, h4, h5⟩ := (I.hok a _ h).1
  exact ⟨⟨o, h1, h2.1⟩, fun b e => by cases e; exact ⟨o, h1, h2.2.1⟩⟩
variable {o e f : Expr} {td ty tx : TE} {apos cpos : Pos}
def tSetdD (X : Cx) (td ty tx : TE) : TE := fun σ H Q => td σ H fun x H1 => ∃ a, x = V.ref a ∧ (∃ xs, H1 a = some (DkO X.prog X.w a xs)) ∧ ty σ H1 fun y H2 => tx σ H2 fun z H3 => ∃ b xs kvs kd k, y = V.ref b ∧ H3 a = some (DkO X.prog X.w a xs) ∧ Paired (EnD X.K H3) xs kvs ∧
  Rp X.K H3 (.ref b) kd ∧ keyD kd = some k ∧ k.depth ≤ 8 ∧ xs.length ≤ sizeLine ∧ (∀ d v, lkD kvs k = some d → Rp X.K H3 v d → Q v H3) ∧ (atKey xs k = none → ∀ u, RelV z u → Q z (upd H3 a (DkO X.prog X.w a (storedH xs k b u))))
theorem pe_setdD (hu : X.A.units + 64 < cLine) (ho : PE X o td) (he : PE X e ty) (hf : PE X f tx) (m : M2 X o "setdefault" apos e f cpos) : PE X (.Call (.Attribute o "setdefault" apos) [e, f] [] cpos) (tSetdD X td ty tx) := by
  refine ⟨fun pins s σ H Q I h => ?_⟩
  refine wpAny_Call_method m.base m.few m.line PySem.F.plainAttrs_dict PySem.F.slot_dict_setdefault PySem.F.type_dict_setdefault ?_
  refine thn (ho.run pins s σ H _ I h) ?_
  rintro u s1 ⟨x, H1, I1, rx, a, rfl, ⟨xs0, d0⟩, q1⟩
  obtain rfl : u = Value.ref a := rx
  obtain ⟨g1, g2⟩ := dkO_ty I1 d0
  refine ⟨g1, g2, ?_⟩
  rw [m.trees]
  refine Calls.callWith_builtin rfl (Calls.evalArgs_plain (Calls.spliced_cons ?_))
  refine thn (he.run pins s1 σ H1 _ I1 q1) ?_
  rintro iv s2 ⟨y, H2, I2, ry, q2⟩
  refine Calls.spliced_cons (thn (hf.run pins s2 σ H2 _ I2 q2) ?_)
  rintro fv s3 ⟨z, H3, I3, rz, b, xs, kvs, kd, k, rfl, ea, hp, hb, hk, hd, hl, c1, c2⟩
  obtain rfl : iv = Value.ref b := ry
  refine Calls.spliced_nil ?_
  obtain ⟨h0, hx⟩ := dkO_full I3 ea hp
  refine call_setdefault_heap (dk_room hu) (dk_is I3 hb hk hd) h0 hx (fun p hp9 => ?_) (fun hn h' dd hs => ?_) hl
  · rcases lk_pair (k := k) hp with ⟨_, e2⟩ | ⟨p', d', v', e1, e2, r1, r2⟩
    · rw [hp9] at e2; cases e2
    · rw [hp9] at e2
      cases e2
      exact ⟨v', H3, I3.tok _, r1, c1 d' v' e1 r2⟩
  · exact ⟨z, _, dk_put I3 ea h0 hs dd, rz, c2 hn fv rz⟩
/-- list(d) -/
theorem call_listDk (hc : X.calm = true) : CallR X (.type "list") (fun vs H Q => ∃ a xs kvs, vs = [V.ref a] ∧ H a = some (DkO X.prog X.w a xs) ∧ Paired (EnD X.K H) xs kvs ∧ xs.length ≤ sizeLine ∧ ∀ p, H p = none → Q (.ref p) (upd H p (.lst (xs.map fun x => V.ref x.2.1)))) := by
  intro pins s σ H vs us Q I r h
  obtain ⟨a, xs, kvs, rfl, ha, hp, hz, q⟩ := h
  rw [Vals.ref1 r]
  obtain ⟨h0, hx⟩ := dkO_full I ha hp
  obtain ⟨ob, es, ep, g1, g2, g3, g4, g5⟩ := hx
  have hes : es.size = xs.length := by rw [← Array.length_toList, g4, List.length_map]
  refine PySem.W.kdl_call (KdlSrc.rawDict (es := es) (ep := ep) h0) (I.ok.hd hc) ⟨ob, g1, g2, g3⟩ (by rw [hes]; exact hz) fun h' tk acc c' hk hD hacc => ?_
  have hvs : acc.toList = xs.map fun x => Value.ref x.2.1 := by
    apply List.ext_getElem?
    intro j
    by_cases hj : j < xs.length
    · have hja : j < acc.size := by rw [hacc.1, hes]; exact hj
      have e1 := Array.getElem?_eq_getElem hja
      obtain ⟨hj2, e2⟩ := hacc.2 j _ e1
      have e3 : es.toList[j]? = some es[j] := by rw [Array.getElem?_toList]; exact Array.getElem?_eq_getElem hj2
      rw [g4, List.getElem?_map, List.getElem?_eq_getElem hj] at e3
      rw [Array.getElem?_toList, e1, e2, List.getElem?_map, List.getElem?_eq_getElem hj]
      have e4 := Option.some.inj e3
      rw [← e4]
      rfl
    · rw [List.getElem?_eq_none (by rw [Array.length_toList, hacc.1, hes]; omega), List.getElem?_eq_none (by rw [List.length_map]; omega)]
  have hv : Vals (xs.map fun x => V.ref x.2.1) acc.toList := by
    rw [hvs]
    have : ∀ l : List (NestedKey × Addr × Value), Vals (l.map fun x => V.ref x.2.1) (l.map fun x => Value.ref x.2.1) := fun l => by
      induction l with
      | nil => exact .nil
      | cons x l ih => exact .cons rfl ih
    exact this xs
  exact ⟨.ref s.heap.objs.size, upd H s.heap.objs.size (.lst (xs.map fun x => V.ref x.2.1)), I.laid (t' := tk) hk (Nat.le_refl _) ⟨by rw [List.length_map]; exact hz, acc.toList, c', hv, by rw [Array.toArray_toList]; exact hD⟩, rfl, q _ (I.hok.fresh (Nat.le_refl _))⟩
end
/-! pairs of whole numbers as keys -/
def keyI (z : Int × Int) : NestedKey := .tup [.num z.1, .num z.2]
theorem keyI_inj {x y : Int × Int} (h : keyI x = keyI y) : x = y := by
  unfold keyI at h
  injection h with h
  injection h with h1 h2
  injection h1 with h1
  injection h2 with h2 _
  injection h2 with h2
  exact Prod.ext h1 h2
theorem keyI_dep (z : Int × Int) : (keyI z).depth ≤ 8 := by simp [keyI, NestedKey.depth, NestedKey.depthAll]
theorem keyD_num {d : D} {n : Int} (h : keyD d = some (.num n)) : d = .int n := by
  cases d with
  | int i => injection h with h; injection h with h; rw [h]
  | str x => injection h with h; cases h
  | tup ds =>
    unfold keyD at h
    cases e : keysD ds with
    | none => rw [e] at h; cases h
    | some ks => rw [e] at h; injection h with h; cases h
  | _ => cases h
theorem keysD_two {ds : List D} {a b : Int} (h : keysD ds = some [.num a, .num b]) : ds = [.int a, .int b] := by
  match ds, h with
  | [], h => cases h
  | [x], h =>
    unfold keysD at h
    cases e : keyD x with
    | none => rw [e] at h; simp at h
    | some k => rw [e] at h; simp [keysD] at h
  | x :: y :: z :: r, h =>
    unfold keysD at h
    cases e : keyD x with
    | none => rw [e] at h; simp at h
    | some k =>
      unfold keysD at h
      cases e2 : keyD y with
      | none => rw [e, e2] at h; simp at h
      | some k2 =>
        unfold keysD at h
        cases e3 : keyD z with
        | none => rw [e, e2, e3] at h; simp at h
        | some k3 =>
          cases e4 : keysD r with
          | none => rw [e, e2, e3, e4] at h; simp at h
          | some ks => rw [e, e2, e3, e4] at h; simp at h
  | [x, y], h =>
    unfold keysD at h
    cases e : keyD x with
    | none => rw [e] at h; simp at h
    | some k =>
      unfold keysD at h
      cases e2 : keyD y with
      | none => rw [e, e2] at h; simp at h
      | some k2 =>
        rw [e, e2] at h
        simp [keysD] at h
        obtain ⟨h1, h2⟩ := h
        rw [h1] at e
        rw [h2] at e2
        rw [keyD_num e, keyD_num e2]
theorem keyD_pair {d : D} {z : Int × Int} (h : keyD d = some (keyI z)) : d = .tup [.int z.1, .int z.2] := by
  cases d with
  | int i => injection h with h; cases h
  | str x => injection h with h; cases h
  | tup ds =>
    unfold keyD at h
    cases e : keysD ds with
    | none => rw [e] at h; cases h
    | some ks =>
      rw [e] at h
      injection h with h
      unfold keyI at h
      injection h with h
      rw [h] at e
      rw [keysD_two e]
  | _ => cases h
theorem keyD_ip (z : Int × Int) : keyD (.tup [.int z.1, .int z.2]) = some (keyI z) := rfl
section
variable {X : Cx} {W : WX} {ρ : Ro} {A : AH} {e f o a : Expr} {pos p0 apos cpos : Pos} {d : D} {k : AK} {E : AEnds} {kvs : List (NestedKey × D)} {lv : Nat} {p : Addr} {z : Int × Int}
/-- d.setdefault((x, y), v) -/
theorem ae_setd (hr : Room lv X.A) (ho : AV X o ρ A (.ref p)) (he : AV X e ρ A (.tup [.int z.1, .int z.2])) (hf : AV X f ρ A d) (hl : A p = some (.dD X.prog X.w p kvs)) (hn : kvs.length ≤ sizeLine)
    (q1 : ∀ d', lkD kvs (keyI z) = some d' → k d' A) (q2 : lkD kvs (keyI z) = none → k d (aupd A p (.dD X.prog X.w p (kvs ++ [(keyI z, d)]))))
    (m : M2 X o "setdefault" apos e f cpos := by exact ⟨rfl, rfl, rfl, rfl⟩) : AE X (.Call (.Attribute o "setdefault" apos) [e, f] [] cpos) ρ A k := fun σ H s Q q =>
  tm_of (pe_setdD hr.units (pe_tm o) (pe_tm e) (pe_tm f) m) (ho σ H s _ fun v H1 t1 r1 l1 => by
    obtain ⟨xs0, e0, _⟩ := l1.dD hl
    refine ⟨p, r1.ref_of, ⟨xs0, e0⟩, he σ H1 (s.mono t1 l1) _ fun u H2 t2 r2 l2 => hf σ H2 ((s.mono t1 l1).mono t2 l2) _ fun w H3 t3 r3 l3 => ?_⟩
    obtain ⟨xs, e1, e2⟩ := l3.dD hl
    obtain ⟨c, rfl⟩ := ref_tup r2
    have tt := (t1.trans t2).trans t3
    refine ⟨c, xs, kvs, _, keyI z, rfl, e1, e2, r2.mono t3, keyD_ip z, keyI_dep z, by rw [Paired.length e2]; exact hn, fun d9 v9 h9 r9 => q v9 H3 d9 A tt r9 l3 (q1 d9 h9), fun h9 u9 r9 => ?_⟩
    rcases lk_pair (k := keyI z) e2 with ⟨g0, _⟩ | ⟨p', d', v', _, g, _, _⟩
    · have t4 : TS H3 (upd H3 p (DkO X.prog X.w p (storedH xs (keyI z) c u9))) := TS.put e1 (fun _ z => nomatch z) (fun _ _ z => nomatch z)
      have hpp := put_pair e2 ⟨r2.mono t3, keyD_ip z, keyI_dep z⟩ r9 r3
      have epd : putD kvs (keyI z) d = kvs ++ [(keyI z, d)] := by unfold putD; rw [g0]; rfl
      rw [epd] at hpp
      refine q _ _ d _ (tt.trans t4) (r3.mono t4) (l3.put (o := .dD X.prog X.w p (kvs ++ [(keyI z, d)])) e1 (fun _ z => nomatch z) (fun _ _ z => nomatch z) ⟨_, rfl, Paired.mapP hpp fun _ _ ⟨⟨kd, z1, z2⟩, z3, v, z4, z5⟩ => ⟨⟨kd, z1.mono t4, z2⟩, z3, v, z4, z5.mono t4⟩⟩) (q2 g0)
    · rw [h9] at g; cases g)
theorem paired_keys {K : Frag} {H : Hp} : ∀ {xs : List (NestedKey × Addr × Value)} {st : List ((Int × Int) × D)}, Paired (EnD K H) xs (st.map fun q => (keyI q.1, q.2)) → Rps K H (xs.map fun x => V.ref x.2.1) (st.map fun q => D.tup [.int q.1.1, .int q.1.2])
  | [], [], _ => .nil
  | x :: xs, q :: st, .cons h t => by
    obtain ⟨⟨kd, r, e, _⟩, e2, _⟩ := h
    rw [e2] at e
    rw [keyD_pair e] at r
    exact .cons r (paired_keys t)
  | [], _ :: _, h => nomatch h
  | _ :: _, [], h => nomatch h
/-- list(d), the keys pairs of whole numbers -/
theorem al_listDk {st : List ((Int × Int) × D)} (hc : X.calm = true) (hg : Gl X "list") (hm : X.mg "list" = none) (h : AV X a ρ A (.ref p)) (hl : A p = some (.dD X.prog X.w p (st.map fun q => (keyI q.1, q.2)))) (hn : st.length ≤ sizeLine) (hs : starEach [a] X.env = [(false, eval a X.env)] := by rfl) :
    AL X (.Call (.Name "list" p0) [a] [] pos) ρ A (st.map fun q => D.tup [.int q.1.1, .int q.1.2]) := fun k kq =>
  ae_callTy (call_listDk hc) hg hm (by decide +kernel) (aes_cons (h.ae (aes_nil (fun vs H r l Q q => by
    obtain ⟨v, rfl, r1⟩ := rps1 r
    rw [r1.ref_of]
    obtain ⟨xs, e1, e2⟩ := l.dD hl
    exact ⟨p, xs, _, rfl, e1, e2, by rw [Paired.length e2, List.length_map]; exact hn, fun z hz => q _ _ _ _ (TS.new hz) (.ref z) (l.newL hz (paired_keys e2)).2 (kq z (l.none hz))⟩))) hs) (he := hs) (hpl := rfl)
end
end C7
namespace C7
open PySem PySem.Spec PyProof.Rows L2
/-! ### a list of pairs of whole numbers, sorted -/
theorem refs_vals {K : Frag} {H : Hp} : ∀ {M : List (Addr × List Int)} {us : List Value}, Vals (M.map fun z => V.ref z.1) us → us = M.map fun z => Value.ref z.1
  | [], _, .nil => rfl
  | z :: M, _, .cons r t => by
    cases r
    rw [refs_vals (K := K) (H := H) t]; rfl
section
variable {X : Cx}
theorem cr_srtLst (hu : X.A.units + 64 < cLine) : CallR X (.builtin "sorted") (fun vs H Q => ∃ (a : Addr) (M : List (Addr × List Int)), vs = [V.ref a] ∧ SqL X.K H a (M.map fun z => V.ref z.1) ∧ (∀ z ∈ M, SqT X.K H z.1 (z.2.map V.int)) ∧ (∀ z ∈ M, ∃ x y, z.2 = [x, y]) ∧ M.length ≤ sizeLine ∧
    ∀ (N : List (Addr × List Int)) (p : Addr), N.Perm M → N.Pairwise (fun x y => leP (pairOf x) (pairOf y) = true) → H p = none → Q (.ref p) (upd H p (.lst (N.map fun z => V.ref z.1)))) := by
  intro pins s σ H vs us Q I r h
  obtain ⟨a, M, rfl, ha, hk, h2, hL, q⟩ := h
  rw [Vals.ref1 r]
  obtain ⟨its, rv, pl, hz⟩ := I.list ha
  have hits := refs_vals (K := X.K) (H := H) rv
  have rd : ∀ z ∈ M, ∃ as, Reads s.heap (Value.ref z.1) (.tuple [.int (z.2.getD 0 0), .int (z.2.getD 1 0)]) as := fun z hz => by
    obtain ⟨o, jts, n, ho, hc, hd, hi⟩ := I.isT (hk z hz)
    obtain ⟨x, y, e⟩ := h2 z hz
    have hi' := ints_of_items hi
    rw [e] at hi' ⊢
    refine ⟨[], .tuple ho hc hd ?_⟩
    generalize jts.toList = ws at hi'
    cases hi' with
    | cons p t hi2 =>
      cases hi2 with
      | cons p2 u hi3 =>
        cases hi3
        exact .cons (.int _ _) (.cons (.int _ _) .nil)
  refine PySem.W.sorted_data (vs := its) (bs := M) (R := fun (v : Value) (b : Addr × List Int) => v = Value.ref b.1) (enc := fun b => .tuple [.int (b.2.getD 0 0), .int (b.2.getD 1 0)]) pl.isList (by rw [hits]; exact refs_each M fun z _ => rfl) (by rw [hits]; exact refs_each M rd) ?_ ?_ hL ?_ fun out ol oe => ?_
  · intro d1 hd1 d2 hd2
    obtain ⟨x, _, rfl⟩ := List.mem_map.mp hd1
    obtain ⟨y, _, rfl⟩ := List.mem_map.mp hd2
    rfl
  · refine .inl fun d hd => ?_
    obtain ⟨x, _, rfl⟩ := List.mem_map.mp hd
    exact ⟨_, _, rfl⟩
  · intro b _
    have : PyData.depth (.tuple [.int (b.2.getD 0 0), .int (b.2.getD 1 0)]) ≤ 1 := by simp [PyData.depth, PyData.depthAll]
    show X.A.units + 2 + PyData.depth (.tuple [.int (b.2.getD 0 0), .int (b.2.getD 1 0)]) < cLine
    omega
  have le : PySem.W.dataLe false (fun b : Addr × List Int => PyData.tuple [.int (b.2.getD 0 0), .int (b.2.getD 1 0)]) = fun x y => leP (pairOf x) (pairOf y) := PySem.W.dataLe_ii (fun b : Addr × List Int => b.2.getD 0 0) (fun b => b.2.getD 1 0)
  rw [le] at oe
  generalize hN : M.mergeSort (fun x y => leP (pairOf x) (pairOf y)) = N at oe
  have pm : N.Perm M := by rw [← hN]; exact List.mergeSort_perm _ _
  have pw : N.Pairwise (fun x y => leP (pairOf x) (pairOf y) = true) := by
    rw [← hN]
    refine List.pairwise_mergeSort (fun x y z g1 g2 => ?_) (fun x y => ?_) M
    · unfold leP at g1 g2 ⊢
      simp only [decide_eq_true_eq] at g1 g2 ⊢
      omega
    · unfold leP
      simp only [Bool.or_eq_true, decide_eq_true_eq]
      omega
  have eo := each_refs (M := M) oe
  obtain ⟨c, hc⟩ := sortedAll_at s.heap its out.toArray
  have hn : H (s.heap.objs.size + 1) = none := I.hok.fresh (Nat.le_succ _)
  have hlen : (N.map fun z => V.ref z.1).length ≤ sizeLine := by rw [List.length_map, pm.length_eq]; exact hL
  have hv : Vals (N.map fun z => V.ref z.1) out := by rw [eo]; exact vals_of_refs N
  exact ⟨.ref (s.heap.objs.size + 1), upd H (s.heap.objs.size + 1) (.lst (N.map fun z => V.ref z.1)), I.laid (t' := s.toks) (fun _ _ => sortedAll_old) (Nat.le_succ _) ⟨hlen, out, c, hv, hc⟩, rfl, q N _ pm pw hn⟩
end
section
variable {X : Cx} {ρ : Ro} {A : AH} {a : Expr} {x : D} {zs : List (Int × Int)} {p0 pos : Pos} {lv : Nat}
theorem al_sortedP (hr : Room lv X.A) (hg : Gl X "sorted") (hm : X.mg "sorted" = none) (h : AV X a ρ A x) (hl : IsL A x (zs.map ipp)) (hz : zs.length ≤ sizeLine) (hnd : zs.Nodup)
    (hs : starEach [a] X.env = [(false, eval a X.env)] := by rfl) : AL X (.Call (.Name "sorted" p0) [a] [] pos) ρ A ((srtP zs).map ipp) := fun k kq =>
  ae_callB (cr_srtLst hr.units) hg hm (by decide +kernel) (aes_cons (h.ae (aes_nil (fun vs H r l Q q => by
    obtain ⟨v, rfl, r1⟩ := rps1 r
    obtain ⟨b, ws, rfl, b1, b2⟩ := hl.sq r1 l
    obtain ⟨ks, rfl, k2, k3⟩ := pairs_at b2
    have kl : ks.length = zs.length := by rw [← List.length_map (f := (·.2)), k3, List.length_map]
    have two : ∀ z ∈ ks, ∃ x y, z.2 = [x, y] := fun z hz9 => by
      have : z.2 ∈ zs.map (fun z => [z.1, z.2]) := by rw [← k3]; exact List.mem_map.mpr ⟨z, hz9, rfl⟩
      obtain ⟨u, _, e⟩ := List.mem_map.mp this
      exact ⟨u.1, u.2, e.symm⟩
    refine ⟨b, ks, rfl, b1, k2, two, by rw [kl]; exact hz, fun N p pm pw hp => ?_⟩
    have hN : ∀ z ∈ N, SqT X.K H z.1 (z.2.map V.int) ∧ ∃ x y, z.2 = [x, y] := fun z hz9 => ⟨k2 z (pm.mem_iff.mp hz9), two z (pm.mem_iff.mp hz9)⟩
    have nd : (N.map (·.2)).Nodup := by
      refine (pm.map (·.2)).nodup_iff.mpr ?_
      rw [k3]
      refine List.pairwise_map.mpr (List.Pairwise.imp (fun {x y} ne e => ne ?_) hnd)
      injection e with e1 e2
      injection e2 with e2 _
      exact Prod.ext e1 e2
    have e : N.map pairOf = srtP zs := by
      refine srt_one ?_ (sorted_srtP zs) fun z => ?_
      · rw [List.pairwise_map]
        refine List.Pairwise.imp_of_mem (fun {x y} hx hy h => ?_) (List.Pairwise.and pw (List.pairwise_map.mp nd))
        obtain ⟨_, x1, x2, ex⟩ := hN x hx
        obtain ⟨_, y1, y2, ey⟩ := hN y hy
        have g1 := h.1
        have g2 := h.2
        unfold pairOf at g1 ⊢
        rw [leP_iff] at g1
        rw [ltP_iff]
        rw [ex, ey] at g1 g2 ⊢
        have g1 : x1 < y1 ∨ (x1 = y1 ∧ x2 ≤ y2) := g1
        show x1 < y1 ∨ (x1 = y1 ∧ x2 < y2)
        have : ¬ (x1 = y1 ∧ x2 = y2) := fun q => g2 (by rw [q.1, q.2])
        omega
      · rw [mem_srtP, List.mem_map]
        constructor
        · rintro ⟨u, hu, rfl⟩
          have : u.2 ∈ zs.map (fun z => [z.1, z.2]) := by rw [← k3]; exact List.mem_map.mpr ⟨u, pm.mem_iff.mp hu, rfl⟩
          obtain ⟨y, hy, e⟩ := List.mem_map.mp this
          unfold pairOf
          rw [← e]
          exact hy
        · intro hz9
          have : [z.1, z.2] ∈ ks.map (·.2) := by rw [k3]; exact List.mem_map.mpr ⟨z, hz9, rfl⟩
          obtain ⟨u, hu, e⟩ := List.mem_map.mp this
          refine ⟨u, pm.mem_iff.mpr hu, ?_⟩
          unfold pairOf
          rw [show u.2 = [z.1, z.2] from e]
          rfl
    have nl := l.newL hp (pairs_rp N hN)
    rw [e] at nl
    exact q _ _ _ _ nl.1 (.ref p) nl.2 (kq p (l.none hp))))) hs) (he := hs) (hpl := rfl)
end
/-! ### a field that is added to -/
section
variable {X : Cx} {W : WX} {ρ : Ro} {A : AH} {E : AEnds} {e o : Expr} {pos tpos : Pos} {C p dx : Addr} {f : Str} {fs : List (Str × D)} {i j : Int}
theorem a1_fldadd (c : Cls X.K C) (na : NoAttr X.K C f) (ho : AV X o ρ A (.ref p)) (h : AV X e ρ A (.int j)) (hl : A p = some (.ins C dx fs)) (hf : fs.lookup f = some (.int i)) (hn : fs.length < 1000) (q : E.nx ρ (aupd A p (.ins C dx (putFD f (.int (i + j)) fs)))) :
    A1 X W (.AugAssign (.Attribute o f tpos) .Add e pos) ρ A E := fun σ H s D qq =>
  tm1_of (ps_fldaug (pe_tm o) (pe_tm e) in_add) (ho σ H s _ fun v H1 t1 r1 l1 => by
    obtain ⟨gs, e1, e2⟩ := l1.ins hl
    obtain ⟨u, g1, g2⟩ := (fd_look e2).2 _ hf
    refine ⟨p, C, dx, gs, u, r1.ref_of, e1, c, na, g1, h σ H1 (s.mono t1 l1) _ fun z H2 t2 r2 l2 => ?_⟩
    rw [g2.int_of, r2.int_of]
    obtain ⟨gs2, f1, f2⟩ := l2.ins hl
    refine ⟨i, j, rfl, rfl, dx, gs2, f1, by rw [Paired.length f2]; exact hn, ?_⟩
    have t3 : TS H2 (upd H2 p (.ins C dx (putF f (.int (i + j)) gs2))) := TS.put f1 (fun _ z => nomatch z) (fun _ _ z => nomatch z)
    have l3 : Rel X.K (aupd A p (.ins C dx (putFD f (.int (i + j)) fs))) (upd H2 p (.ins C dx (putF f (.int (i + j)) gs2))) := l2.put f1 (fun _ z => nomatch z) (fun _ _ z => nomatch z) ⟨_, rfl, Paired.mapP (fd_put (.int (i + j)) f2) fun _ _ z => ⟨z.1, z.2.mono t3⟩⟩
    exact qq.nx ρ _ σ _ ((t1.trans t2).trans t3) (s.mono ((t1.trans t2).trans t3) l3) q)
variable {k : AK} {m : Str} {lv : Nat} {ct : Ct} {xc : Value → AH → Prop} {apos : Pos}
theorem aex_mt0 (F : Mt X.prog X.w X.K X.mg X.base C m lv ct) (tk : L2N.Takes X W) (c : Cls X.K C) (hr : Room lv X.A) (ho : AV X o ρ A (.ref p)) (hl : A p = some (.ins C dx fs)) (hn : fs.lookup m = none) (h : ct [.ref p] A k xc)
    {pl : Sem Bool} (ht : eval (.Call (.Attribute o m apos) [] [] pos) X.env = (eval o X.env >>= fun ov => standAt apos.atName >>= fun _ => holding [ov] (getMethod ov m pl) >>= fun z => callWith pos z.1 z.2 (backTo pos (starEach [] X.env)) (backToKw pos (keywordEach [] X.env))) := by rfl) : AEx X W (.Call (.Attribute o m apos) [] [] pos) ρ A xc k := fun σ H s Q q hx => by
  obtain ⟨f, fd, ps, F, M, hb⟩ := F.ex
  refine tm_of (pe_mtX0 (E := WE W) (pe_tm o) c M F hr hb (fun σ => L2N.passAt tk σ) ht) (ho σ H s _ fun v H1 t1 r1 l1 => ?_)
  obtain ⟨gs, e1, e2⟩ := l1.ins hl
  refine ⟨p, dx, gs, r1.ref_of, e1, (fd_look e2).1 hn, ?_⟩
  rw [r1.ref_of]
  exact ⟨[.ref p], A, k, xc, .one (.ref p), l1, h, fun v H' d A' t3 r3 l3 k3 => q v H' d A' (t1.trans t3) r3 l3 k3, fun c H' A' t3 l3 k3 => hx c H' A' (t1.trans t3) l3 k3⟩
end
end C7
namespace C7
open PySem PySem.Spec PyProof.Rows L2
/-! ### sets of up to 200 tuples, no two alike: the masks up to 511 -/
def lcgL : Nat → Nat → List Nat
  | 0, _ => []
  | n + 1, x => x :: lcgL n ((x * 5 + 1) % 512)
theorem lcgL_all : ((List.range 512).all fun j => (lcgL 512 0).any fun b => b == j) = true := by decide +kernel
theorem lcgL_mem {n x y : Nat} (h : y ∈ lcgL n x) : ∃ b, b < n ∧ lcgI 511 x b = y := by
  induction n generalizing x with
  | zero => cases h
  | succ n ih =>
    rcases List.mem_cons.mp h with h | h
    · exact ⟨0, Nat.succ_pos _, h.symm⟩
    · obtain ⟨b, hb, e⟩ := ih h
      refine ⟨b + 1, by omega, ?_⟩
      rw [← e]
      clear e ih hb h
      induction b with
      | zero => rfl
      | succ b ih => show (lcgI 511 x (b + 1) * 5 + 1) % 512 = (lcgI 511 ((x * 5 + 1) % 512) b * 5 + 1) % 512; rw [ih]
theorem lcgI0 (k : Nat) : lcgI 511 0 k = lcgN 511 k := by
  induction k with
  | zero => rfl
  | succ k ih => show (lcgI 511 0 k * 5 + 1) % 512 = (lcgN 511 k * 5 + 1) % 512; rw [ih]
theorem lcg_511 {j : Nat} (hj : j ≤ 511) : ∃ b, b ≤ 511 ∧ lcgN 511 b = j := by
  have h := List.all_eq_true.mp lcgL_all j (List.mem_range.mpr (by omega))
  obtain ⟨y, hy, e⟩ := List.any_eq_true.mp h
  obtain ⟨b, hb, e2⟩ := lcgL_mem hy
  exact ⟨b, by omega, by rw [← lcgI0, e2]; exact beq_iff_eq.mp e⟩
theorem lcg_511r : ∀ k, lcgN 511 (512 + k) = lcgN 511 k
  | 0 => by decide +kernel
  | k + 1 => by
    show (lcgN 511 (512 + k) * 5 + 1) % 512 = (lcgN 511 k * 5 + 1) % 512
    rw [lcg_511r k]
/-- each slot comes on the round -/
def RoundM (m : Nat) : Prop := ∀ i j, i ≤ m → j ≤ m → ∃ k, k ≤ m ∧ lcgI m i k = j
theorem round_511 : RoundM 511 := fun i j hi hj => by
  obtain ⟨a, ha, rfl⟩ := lcg_511 hi
  obtain ⟨b, hb, rfl⟩ := lcg_511 hj
  by_cases c : a ≤ b
  · exact ⟨b - a, by omega, by rw [lcgN_add, show a + (b - a) = b by omega]⟩
  · refine ⟨b + 512 - a, by omega, ?_⟩
    rw [lcgN_add, show a + (b + 512 - a) = 512 + b by omega, lcg_511r]
theorem size_308 : SetTable.sizeAbove (SetTable.grown 77) = 512 := by decide +kernel
def MaskW (m : Nat) : Prop := MaskOk m ∨ m = 511
theorem MaskW.round {m : Nat} (h : MaskW m) : RoundM m := h.elim (fun h i j a b => lcgI_all h a b) fun e => by subst e; exact round_511
theorem MaskW.odd {m : Nat} (h : MaskW m) : m % 2 = 1 := h.elim mask_odd fun e => by subst e; rfl
theorem MaskW.le {m : Nat} (h : MaskW m) : m ≤ 511 := by rcases h with (rfl | rfl | rfl) | rfl <;> decide
/-- the first state of a hash's way -/
abbrev wayAt (m : Nat) (h : Int) : SetTable.Probe := runAt m (SetTable.bits h % (m + 1)) (SetTable.bits h)
theorem way_in (m : Nat) (h : Int) (k : Nat) : way m h k ≤ m := by
  have hi : SetTable.bits h % (m + 1) ≤ m := Nat.le_of_lt_succ (Nat.mod_lt _ (Nat.succ_pos m))
  have r := runEnd_bd hi
  have q := nth_in (m := m) k (wayAt m h) (by
    show SetTable.bits h % (m + 1) + (SetTable.runEnd m (SetTable.bits h % (m + 1)) - SetTable.bits h % (m + 1)) ≤ m
    omega)
  exact Nat.le_trans (Nat.le_add_right _ _) q
theorem runs_to {m : Nat} (hm : MaskW m) (h : Int) {j : Nat} (hj : j ≤ m) : ∃ n, n ≤ m + 12 ∧ runI m (SetTable.bits h) n = j := by
  obtain ⟨k, hk, e⟩ := hm.round _ _ (runI_le m (SetTable.bits h) 12) hj
  exact ⟨12 + k, by omega, by rw [runI_tail (bits_lt h)]; exact e⟩
theorem way_to {m : Nat} (hm : MaskW m) (h : Int) {j : Nat} (hj : j ≤ m) : ∃ k, k < 10 * SetTable.turns m ∧ way m h k = j := by
  obtain ⟨n, hn, e⟩ := runs_to hm h hj
  obtain ⟨k, hk, e2⟩ := run_nth m (SetTable.bits h) n
  refine ⟨k, by unfold SetTable.turns; omega, ?_⟩
  show (nth m (wayAt m h) k).j = j
  rw [e2]
  exact e
/-- a free slot among the owners -/
theorem free_w {m : Nat} (hm : MaskW m) (owner : Array (Option Nat)) (h : Int) {j : Nat} (hj : j ≤ m) (hf : oAt owner j = none) :
    ∃ K, SetTable.layClean.free m owner (SetTable.turns m) (SetTable.bits h % (m + 1)) (SetTable.bits h) = some (way m h K) ∧ oAt owner (way m h K) = none ∧ ∀ k, k < K → oAt owner (way m h k) ≠ none := by
  obtain ⟨n, hn, e⟩ := runs_to hm h hj
  have hw : way m h (off m (SetTable.bits h % (m + 1)) (SetTable.bits h) n) = j := by
    show (nth m (wayAt m h) (off m (SetTable.bits h % (m + 1)) (SetTable.bits h) n)).j = j
    rw [nth_off, itL_run]
    exact e
  obtain ⟨K, k1, k2, k3⟩ := st_least (p := fun k => oAt owner (way m h k) = none) (off m (SetTable.bits h % (m + 1)) (SetTable.bits h) n) (by
    show oAt owner (way m h _) = none
    rw [hw]
    exact hf)
  have k2 : oAt owner (way m h K) = none := k2
  refine ⟨K, free_spec m owner (SetTable.turns m) n _ _ K (by unfold SetTable.turns; omega) k1 (fun k hk => ?_) ?_, k2, k3⟩
  · have q : oAt owner (way m h k) ≠ none := k3 k hk
    show (oAt owner (way m h k)).isNone = false
    cases z : oAt owner (way m h k) with
    | none => exact absurd z q
    | some _ => rfl
  · show (oAt owner (way m h K)).isNone = true
    rw [k2]
    rfl
theorem own_w {m : Nat} (hm : MaskW m) {done : List Int} {owner : Array (Option Nat)} (O : Own m done owner) (hl : done.length ≤ m) (h : Int) :
    ∃ j, SetTable.layClean.free m owner (SetTable.turns m) (SetTable.bits h % (m + 1)) (SetTable.bits h) = some j ∧ Own m (done ++ [h]) (owner.setIfInBounds j (some done.length)) := by
  obtain ⟨ps, hps, hin⟩ := O.ps
  obtain ⟨j0, h0, hn0⟩ := st_missing ps (m + 1) (by omega)
  have free0 : oAt owner j0 = none := Classical.byContradiction fun z => hn0 (hin j0 (Nat.le_of_lt_succ h0) z)
  obtain ⟨K, e1, e2, e3⟩ := free_w hm owner h (Nat.le_of_lt_succ h0) free0
  generalize hJ : way m h K = J at e1 e2
  have jm : J ≤ m := by rw [← hJ]; exact way_in m h K
  have self := oAt_set_self (some done.length) (show J < owner.size by rw [O.sz]; omega)
  have other : ∀ i, i ≠ J → oAt (owner.setIfInBounds J (some done.length)) i = oAt owner i := fun i hi => oAt_set_ne _ hi
  have up : ∀ i, oAt owner i ≠ none → oAt (owner.setIfInBounds J (some done.length)) i ≠ none := fun i hi => by
    by_cases c : i = J
    · rw [c, self]; exact fun z => nomatch z
    · rw [other i c]; exact hi
  refine ⟨J, e1, ⟨by rw [Array.size_setIfInBounds]; exact O.sz, fun i k hi e => ?_, fun k hk => ?_, ⟨J :: ps, by simp [hps], fun i hi e => ?_⟩⟩⟩
  · by_cases c : i = J
    · rw [c, self] at e
      obtain rfl := Option.some.inj e
      exact ⟨h, K, by simp, by rw [c]; exact hJ, fun k' hk' => up _ (e3 k' hk')⟩
    · rw [other i c] at e
      obtain ⟨h', K', a1, a2, a3⟩ := O.at_ i k hi e
      exact ⟨h', K', by rw [List.getElem?_append_left (List.getElem?_eq_some_iff.mp a1).1]; exact a1, a2, fun k' hk' => up _ (a3 k' hk')⟩
  · rw [List.length_append, List.length_singleton] at hk
    by_cases c : k < done.length
    · obtain ⟨i, hi, e⟩ := O.all k c
      exact ⟨i, hi, by rw [other i fun z => by rw [z, e2] at e; cases e]; exact e⟩
    · exact ⟨J, jm, by rw [self, show k = done.length by omega]⟩
  · by_cases c : i = J
    · rw [c]; exact List.mem_cons_self
    · rw [other i c] at e
      exact List.mem_cons_of_mem _ (hin i hi e)
theorem owns_w {m : Nat} (hm : MaskW m) (rest : List Int) : ∀ (done : List Int) (owner : Array (Option Nat)), Own m done owner → done.length + rest.length ≤ m →
    ∃ o', rest.foldl (stepF m) (some (owner, done.length)) = some (o', (done ++ rest).length) ∧ Own m (done ++ rest) o' := by
  induction rest with
  | nil => intro done owner O _; exact ⟨owner, by rw [List.append_nil]; rfl, by rw [List.append_nil]; exact O⟩
  | cons h rest ih =>
    intro done owner O hl
    rw [List.length_cons] at hl
    obtain ⟨j, e, O1⟩ := own_w hm O (by omega) h
    obtain ⟨o', f, O2⟩ := ih (done ++ [h]) _ O1 (by rw [List.length_append, List.length_singleton]; omega)
    have ea : done ++ [h] ++ rest = done ++ h :: rest := by simp
    rw [ea, List.length_append, List.length_singleton] at f
    rw [ea] at O2
    exact ⟨o', by rw [List.foldl_cons, stepF_some e]; exact f, O2⟩
theorem clean_w {m : Nat} (hm : MaskW m) {hs : Array Int} (hn : hs.size ≤ m) : ∃ owner, SetTable.layClean m hs = some owner ∧ Own m hs.toList owner := by
  obtain ⟨owner, f, O⟩ := owns_w hm hs.toList [] _ (Own.init m) (by rw [Array.length_toList]; simpa using hn)
  rw [List.nil_append] at O f
  refine ⟨owner, ?_, O⟩
  rw [layClean_eq, show (0 : Nat) = ([] : List Int).length from rfl, f]
  rfl
/-- a table of such a mask, its slots found again -/
structure TabW (t : SetTable) (hs : List Int) : Prop where
  ris : Ris t.place.toList
  dm : t.dummies = #[]
  sz : t.place.size = hs.length
  mw : MaskW t.mask
  bd : ∀ x ∈ t.place.toList, x ≤ t.mask
  reach : ∀ (i : Nat) (h : Int) (j : Nat), hs[i]? = some h → t.place.toList[i]? = some j → ∃ k, way t.mask h k = j ∧ ∀ k', k' < k → way t.mask h k' ∈ t.place.toList
theorem TabW.free {t : SetTable} {hs : List Int} (T : TabW t hs) (hl : hs.length ≤ t.mask) (h : Int) : ∃ K, K < 10 * SetTable.turns t.mask ∧ way t.mask h K ∉ t.place.toList ∧ ∀ k, k < K → way t.mask h k ∈ t.place.toList := by
  obtain ⟨j, hj, hn⟩ := st_missing t.place.toList (t.mask + 1) (by rw [Array.length_toList, T.sz]; omega)
  obtain ⟨k, hk, e⟩ := way_to T.mw h (Nat.le_of_lt_succ hj)
  obtain ⟨K, h1, h2, h3⟩ := st_least (p := fun k => way t.mask h k ∉ t.place.toList) k (by show way t.mask h k ∉ _; rw [e]; exact hn)
  exact ⟨K, by omega, h2, fun k' hk' => Classical.byContradiction (h3 k' hk')⟩
theorem TabW.put {t : SetTable} {hs : List Int} (T : TabW t hs) {h : Int} {K : Nat} (hK : way t.mask h K ∉ t.place.toList) (hb : ∀ k, k < K → way t.mask h k ∈ t.place.toList) {p : Nat} (hp : p = SetTable.below t.place (way t.mask h K)) :
    p ≤ hs.length ∧ TabW (t.put (way t.mask h K)).1 (hs.take p ++ h :: hs.drop p) ∧ (t.put (way t.mask h K)).1.fill = hs.length + 1 := by
  obtain ⟨c1, _, _⟩ := below_cut T.ris (way t.mask h K)
  have pl := put_place t (way t.mask h K)
  rw [← hp] at c1 pl
  have p1 : p ≤ t.place.toList.length := by rw [Array.length_toList]; exact c1
  have p2 : p ≤ hs.length := by rw [← T.sz]; exact c1
  have size : (t.put (way t.mask h K)).1.place.size = hs.length + 1 := by rw [← Array.length_toList, pl, len_ins _ p1, Array.length_toList, T.sz]
  have up : ∀ {x : Nat}, x ∈ t.place.toList → x ∈ (t.put (way t.mask h K)).1.place.toList := fun hx => by rw [pl]; exact mem_ins.2 (.inr hx)
  have dm := put_dm T.dm (way t.mask h K)
  refine ⟨p2, ⟨ris_insert T.ris fun e => hK (List.mem_of_getElem? (by rw [Array.getElem?_toList]; exact e)), dm, by rw [len_ins _ p2]; exact size, T.mw, fun x hx => ?_, fun i h' j' a b => ?_⟩, ?_⟩
  · rw [pl] at hx
    rcases mem_ins.1 hx with z | z
    · rw [z]; exact way_in _ _ _
    · exact T.bd x z
  · rw [tins_get hs p2] at a
    rw [pl, tins_get _ p1] at b
    show ∃ k, way t.mask h' k = j' ∧ ∀ k', k' < k → way t.mask h' k' ∈ (t.put (way t.mask h K)).1.place.toList
    have old : ∀ i, hs[i]? = some h' → t.place.toList[i]? = some j' → ∃ k, way t.mask h' k = j' ∧ ∀ k', k' < k → way t.mask h' k' ∈ (t.put (way t.mask h K)).1.place.toList := fun i a b =>
      let ⟨k, e, z⟩ := T.reach i h' j' a b; ⟨k, e, fun k' hk' => up (z k' hk')⟩
    by_cases c : i < p
    · rw [if_pos c] at a b
      exact old i a b
    · rw [if_neg c] at a b
      by_cases d : i = p
      · rw [if_pos d] at a b
        obtain rfl := Option.some.inj a
        exact ⟨K, Option.some.inj b, fun k' hk' => up (hb k' hk')⟩
      · rw [if_neg d] at a b
        exact old (i - 1) a b
  · show (t.put (way t.mask h K)).1.place.size + (t.put (way t.mask h K)).1.dummies.size = hs.length + 1
    rw [size, dm]
    rfl
theorem relaid_w (t : SetTable) {hs : Array Int} {wanted M : Nat} (hw : SetTable.sizeAbove wanted - 1 = M) (hM : MaskW M) (hn : hs.size ≤ M) :
    ∃ t' order, t.relaid hs wanted = some (t', order) ∧ order.toList.Perm (List.range hs.size) ∧ TabW t' (order.toList.map fun i => hs.getD i 0) ∧ t'.mask = M ∧ t'.led = t.led ∧ t'.plain = t.plain := by
  obtain ⟨owner, e, O⟩ := clean_w hM hn
  obtain ⟨lv, hlv⟩ : ∃ lv, lv = liveOf M owner := ⟨_, rfl⟩
  have mem : ∀ {j k : Nat}, (j, k) ∈ lv ↔ j ≤ M ∧ oAt owner j = some k := by rw [hlv]; exact mem_live O.sz
  have ris := ris_live (fun j => owner.getD j none) (List.range (M + 1)) (by
    unfold Ris
    first | exact List.pairwise_lt_range | exact List.pairwise_lt_range _)
  have r1 : Ris (lv.map (·.1)) := by rw [hlv]; exact ris.1
  have r2 : ∀ x ∈ lv.map (·.1), x ≤ M := fun x hx => by
    obtain ⟨⟨j, k⟩, hq, rfl⟩ := List.mem_map.mp hx
    exact (mem.1 hq).1
  have len : lv.length = hs.size := by
    obtain ⟨ps, p1, p2⟩ := O.ps
    have nd : (lv.map (·.1)).Nodup := List.Pairwise.imp (fun h => Nat.ne_of_lt h) r1
    have a := nat_nodup_len _ ps nd fun x hx => by
      obtain ⟨⟨j, k⟩, hq, rfl⟩ := List.mem_map.mp hx
      obtain ⟨b1, b2⟩ := mem.1 hq
      exact p2 _ b1 (by rw [b2]; exact fun z => nomatch z)
    have b := nat_nodup_len (List.range hs.size) (lv.map (·.2)) List.nodup_range fun k hk => by
      obtain ⟨j, b1, b2⟩ := O.all k (by rw [Array.length_toList]; exact List.mem_range.mp hk)
      exact List.mem_map.mpr ⟨(j, k), mem.2 ⟨b1, b2⟩, rfl⟩
    rw [List.length_map, p1] at a
    have hz : hs.toList.length = hs.size := Array.length_toList
    rw [List.length_map, List.length_range] at b
    omega
  refine ⟨tabOf t M owner, (lv.map (·.2)).toArray, by rw [relaid_eq, hw, e, hlv]; rfl, ?_, ?_, rfl, rfl, rfl⟩
  · refine perm_range hs.size _ (by show (lv.map (·.2)).length = _; rw [List.length_map, len]) fun k hk => ?_
    obtain ⟨j, b1, b2⟩ := O.all k (by rw [Array.length_toList]; exact hk)
    exact List.mem_map.mpr ⟨(j, k), mem.2 ⟨b1, b2⟩, rfl⟩
  · have pl : (tabOf t M owner).place.toList = lv.map (·.1) := by rw [hlv]; rfl
    refine ⟨by rw [pl]; exact r1, rfl, ?_, hM, by rw [pl]; exact r2, fun i h j a b => ?_⟩
    · rw [← Array.length_toList, pl]
      simp
    · rw [pl, List.getElem?_map] at b
      have a : ((lv.map (·.2)).map fun i => hs.getD i 0)[i]? = some h := a
      rw [List.getElem?_map, List.getElem?_map] at a
      obtain ⟨⟨y, k⟩, hq, e1⟩ := Option.map_eq_some_iff.mp b
      rw [hq] at a
      have ej : y = j := e1
      have eh : hs.getD k 0 = h := Option.some.inj a
      subst ej
      obtain ⟨b1, b2⟩ := mem.1 (List.mem_of_getElem? hq)
      obtain ⟨h0, K, a1, a2, a3⟩ := O.at_ y k b1 b2
      have e0 : hs.getD k 0 = h0 := by rw [Array.getD_eq_getD_getElem?, ← Array.getElem?_toList, a1]; rfl
      obtain rfl : h0 = h := e0.symm.trans eh
      refine ⟨K, a2, fun k' hk' => ?_⟩
      rw [pl]
      show way M h0 k' ∈ _
      cases z : oAt owner (way M h0 k') with
      | none => exact absurd z (a3 k' hk')
      | some k2 => exact List.mem_map.mpr ⟨(way M h0 k', k2), mem.2 ⟨way_in _ _ _, z⟩, rfl⟩
end C7
namespace C7
open PySem PySem.Spec PyProof.Rows L2
/-! ### a set of up to 200 tuples, no two alike -/
section
variable {P : Program} {w : World} {A : Around} {E : Value → Shared → Prop} {s : Shared} {a : Addr} {M : List (Addr × List Int)} {rs : Array (Int × Value)} {ep : Nat} {tb : SetTable}
structure SetW (P : Program) (w : World) (h : Heap) (a : Addr) (M : List (Addr × List Int)) (rs : Array (Int × Value)) (ep : Nat) (tb : SetTable) : Prop where
  at_ : ∃ o, h.get? a = some o ∧ o.ExactSet ∧ o.data = .set rs ep tb
  rw_ : rs.toList = rowsOf P w M
  ok : TabW tb (M.map fun z => thash P w z.2)
  one : (M.map (·.2)).Nodup
  tup : ∀ z ∈ M, IsT P w h z.2 z.1
  pl : tb.plain = true
  ld : w.params.followText "set-order" = true ∨ tb.led = true
  rm : M.length * 5 < tb.mask * 3
theorem SetW.size {h : Heap} (B : SetW P w h a M rs ep tb) : rs.size = M.length := by
  have e := congrArg List.length B.rw_
  rw [Array.length_toList] at e
  rw [e]; unfold rowsOf; rw [List.length_map]
theorem fits_w {hs : List Int} {n : Nat} (T : TabW tb hs) (e : hs.length = n) (h : n ≤ tb.mask) : tb.fits n = true := by
  unfold SetTable.fits SetTable.fill
  rw [T.dm, T.sz, e, Bool.and_eq_true, beq_iff_eq, decide_eq_true_eq]
  exact ⟨rfl, by show n + 0 ≤ tb.mask; omega⟩
theorem SetW.fits {h : Heap} (B : SetW P w h a M rs ep tb) : tb.fits rs.size = true := fits_w B.ok (by rw [List.length_map, B.size]) (by rw [B.size]; have := B.rm; omega)
theorem SetW.entry {h : Heap} (B : SetW P w h a M rs ep tb) {i : Nat} {z : Addr × List Int} (e : M[i]? = some z) : rs[i]? = some (thash P w z.2, Value.ref z.1) := by
  rw [← Array.getElem?_toList, B.rw_]
  unfold rowsOf
  rw [List.getElem?_map, e]
  rfl
theorem SetW.keep {h h' : Heap} (B : SetW P w h a M rs ep tb) (ka : ∀ o, h.get? a = some o → h'.get? a = some o) (kt : ∀ z ∈ M, IsT P w h' z.2 z.1) : SetW P w h' a M rs ep tb :=
  let ⟨o, ho, r⟩ := B.at_; ⟨⟨o, ka o ho, r⟩, B.rw_, B.ok, B.one, kt, B.pl, B.ld, B.rm⟩
theorem nth_dummy (m : Nat) : ∀ (n : Nat) (p : SetTable.Probe), p.dummy = none → (nth m p n).dummy = none
  | 0, _, h => h
  | n + 1, p, h => nth_dummy m n (adv m p) (by unfold adv; split <;> exact h)
/-- what isn't there isn't found -/
theorem seek_w (B : SetW P w s.heap a M rs ep tb) {x : Addr} {k : List Int} (hx : IsT P w s.heap k x) (hu : A.units < cLine) (hk : k ∉ M.map (·.2)) {K : Nat} (hKf : K < 10 * SetTable.turns tb.mask)
    (hK : way tb.mask (thash P w k) K ∉ tb.place.toList) (hKb : ∀ c, c < K → way tb.mask (thash P w k) c ∈ tb.place.toList) {Q : SetFound → Shared → Prop} (q : Q (.free (way tb.mask (thash P w k) K) false) s) :
    ∀ (f c : Nat) (st : Option SetTable.Probe), st.getD (tb.probeStart (thash P w k)) = nth tb.mask (wayAt tb.mask (thash P w k)) c → c ≤ K → K - c < f →
      wpAny (model P w) A (setSearchFrom a (.ref x) (thash P w k) true f st) Q E s
  | 0, _, _, _, _, hf => absurd hf (Nat.not_lt_zero _)
  | f + 1, c, st, hst, hc, hf => by
    obtain ⟨o, ho, hex, hd⟩ := B.at_
    rw [setSearchFrom_succ]
    refine wpAny_bind (wpAny_setState_of ho hd B.fits ?_)
    dsimp only
    refine wp_if_neg (by unfold SetTable.gaveWay; rw [B.ok.mw.odd]; decide) ?_
    try refine wpAny_bind (wpAny_pure ?_)
    have on : ∀ i, nth tb.mask (nth tb.mask (wayAt tb.mask (thash P w k)) c) i = nth tb.mask (wayAt tb.mask (thash P w k)) (c + i) := fun i => (nth_add tb.mask c _ i).symm
    have onj : ∀ i, (nth tb.mask (nth tb.mask (wayAt tb.mask (thash P w k)) c) i).j = way tb.mask (thash P w k) (c + i) := fun i => congrArg SetTable.Probe.j (on i)
    have spec := go_spec tb B.ok.ris B.ok.dm (fun i => (rs[i]?.map (·.1)).getD 0) (thash P w k) (10 * SetTable.turns tb.mask) (K - c) _ (nth_dummy tb.mask c (wayAt tb.mask (thash P w k)) rfl) (by omega)
      (fun i hi => by rw [onj]; exact hKb (c + i) (by omega)) (by rw [onj, show c + (K - c) = K by omega]; exact hK)
    rcases spec with ⟨i, n, hi, hn, _, _, met⟩ | ⟨_, met⟩
    · have met2 : tb.probe (fun i => (rs[i]?.map (·.1)).getD 0) (thash P w k) (st.getD (tb.probeStart (thash P w k))) = some (.candidate (way tb.mask (thash P w k) (c + i)) n (nth tb.mask (wayAt tb.mask (thash P w k)) (c + (i + 1)))) := by
        rw [hst, ← onj, ← on]
        exact met
      rw [met2]
      dsimp only
      rw [onj] at hn
      have nl : n < M.length := by
        have h1 := (List.getElem?_eq_some_iff.mp hn).1
        have h2 := B.ok.sz
        rw [List.length_map] at h2
        rw [Array.length_toList] at h1
        omega
      obtain ⟨z, hz⟩ : ∃ z, M[n]? = some z := ⟨_, List.getElem?_eq_getElem nl⟩
      have zm : z ∈ M := List.mem_of_getElem? hz
      have ne : z.2 ≠ k := fun e => hk (List.mem_map.mpr ⟨z, zm, e⟩)
      have sl : tb.slot (way tb.mask (thash P w k) (c + i)) = .live n := slot_live B.ok.ris hn
      have rest : wpAny (model P w) A (searchRest a (.ref x) (thash P w k) true f rs tb (way tb.mask (thash P w k) (c + i)) n (nth tb.mask (wayAt tb.mask (thash P w k)) (c + (i + 1)))) Q E s := by
        unfold searchRest
        rw [B.entry hz]
        dsimp only
        refine wpAny_bind (wpAny_holding (wpAny_eqBool_tuple hu (B.tup z zm) hx ?_))
        refine wpAny_bind (wpAny_setState_of ho hd B.fits ?_)
        dsimp only
        refine wp_if_neg (by simp [ne]) ?_
        try refine wpAny_bind (wpAny_pure ?_)
        rw [sameMem]
        dsimp only
        simp only [if_true, sl, B.entry hz]
        refine wpAny_bind (wpAny_isSame_ref_self (wpAny_bind (wpAny_pure ?_)))
        simp only [if_true]
        refine wp_if_neg (by simp [ne]) ?_
        exact seek_w B hx hu hk hKf hK hKb q f (c + (i + 1)) _ rfl (by omega) (by omega)
      by_cases hl : tb.led = true
      · refine wp_if_neg (by simp [hl]) ?_
        try refine wpAny_bind (wpAny_pure ?_)
        exact rest
      · refine wp_if_pos (by simp [hl]) ?_
        refine wpAny_bind (seen_tup hx (fun y hy => ?_) ?_)
        · obtain ⟨e, he, ee⟩ := List.mem_map.mp hy
          have he1 : e ∈ rs ∧ e.1 = thash P w k := by simpa using he
          have he2 : e ∈ rs.toList := by simpa using he1.1
          rw [B.rw_] at he2
          obtain ⟨p2, hp2, e2⟩ := List.mem_map.mp he2
          refine ⟨p2.2, p2.1, ?_, B.tup p2 hp2⟩
          rw [← ee, ← e2]
        · refine wp_if_neg (by decide) ?_
          try refine wpAny_bind (wpAny_pure ?_)
          exact rest
    · have met2 : tb.probe (fun i => (rs[i]?.map (·.1)).getD 0) (thash P w k) (st.getD (tb.probeStart (thash P w k))) = some (.empty (way tb.mask (thash P w k) K) none) := by
        have e2 : way tb.mask (thash P w k) K = (nth tb.mask (nth tb.mask (wayAt tb.mask (thash P w k)) c) (K - c)).j := by rw [onj, show c + (K - c) = K by omega]
        rw [hst, e2]
        exact met
      rw [met2]
      dsimp only
      exact wpAny_pure q
theorem find_w (B : SetW P w s.heap a M rs ep tb) {x : Addr} {k : List Int} (hx : IsT P w s.heap k x) (hu : A.units < cLine) (hk : k ∉ M.map (·.2)) {Q : SetFound → Shared → Prop}
    (q : ∀ K, way tb.mask (thash P w k) K ∉ tb.place.toList → (∀ c, c < K → way tb.mask (thash P w k) c ∈ tb.place.toList) → Q (.free (way tb.mask (thash P w k) K) false) s) :
    wpAny (model P w) A (setSearch a (.ref x) (thash P w k) true) Q E s := by
  obtain ⟨K, h1, h2, h3⟩ := B.ok.free (by rw [List.length_map]; have := B.rm; omega) (thash P w k)
  have small : K < 100000 := by
    have := B.ok.mw.le
    unfold SetTable.turns at h1
    omega
  unfold setSearch
  exact seek_w B hx hu hk h1 h2 h3 (q K h2 h3) 100000 0 none rfl (Nat.zero_le _) (by omega)
/-- laid anew -/
theorem anew_w {o : Obj} (ho : s.heap.get? a = some o) (hex : o.ExactSet) (hd : o.data = .set rs ep tb) (hr : rs.toList = rowsOf P w M) (T : TabW tb (M.map fun z => thash P w z.2)) (hfl : M.length ≤ tb.mask)
    (nd : (M.map (·.2)).Nodup) (tup : ∀ z ∈ M, IsT P w s.heap z.2 z.1) (pl : tb.plain = true) (ld : w.params.followText "set-order" = true ∨ tb.led = true) {wanted m : Nat}
    (hw : SetTable.sizeAbove wanted - 1 = m) (hm : MaskW m) (hw2 : SetTable.sizeAbove wanted ≤ 512) (hn : M.length * 5 < m * 3) {Q : Unit → Shared → Prop}
    (q : ∀ h' M' rs' ep' tb', Heap.SameBut a s.heap h' → SetW P w h' a M' rs' ep' tb' → M'.Perm M → Q () { s with heap := h' }) : wpAny (model P w) A (setRelay a wanted) Q E s := by
  have sz : rs.size = M.length := by
    have h := congrArg List.length hr
    unfold rowsOf at h
    rw [Array.length_toList, List.length_map] at h
    exact h
  have few : M.length ≤ 306 := by have := hm.le; omega
  have fits : tb.fits rs.size = true := fits_w T (by rw [List.length_map, sz]) (by rw [sz]; exact hfl)
  obtain ⟨t', order, e, hp, T2, em, el, epl⟩ := relaid_w tb (hs := rs.map (·.1)) (wanted := wanted) hw hm (by rw [Array.size_map, sz]; omega)
  rw [Array.size_map, sz] at hp
  obtain ⟨M2, r1, r2, r3⟩ := order_rows M rs order hr hp
  rw [← r3] at T2
  have s2 : (order.filterMap (rs[·]?)).size = rs.size := by
    have h := congrArg List.length r1
    unfold rowsOf at h
    rw [Array.length_toList, List.length_map, r2.length_eq] at h
    rw [h, sz]
  rw [setRelay_eq]
  refine wpAny_bind (wpAny_setState_of ho hd fits ?_)
  dsimp only
  refine wp_if_neg (by rw [sizeLine_eq]; omega) ?_
  try refine wpAny_bind (wpAny_pure ?_)
  rw [e]
  dsimp only
  refine wpAny_bind ?_
  refine wp_if_neg (by rw [s2]; simp) ?_
  try refine wpAny_bind (wpAny_pure ?_)
  refine wpAny_pure ?_
  dsimp only
  refine wpAny_storeSet_of ho hd ?_ (by rw [s2, sz, sizeLine_eq]; omega)
  have sb : Heap.SameBut a s.heap (s.heap.update a (Obj.putSet (order.filterMap (rs[·]?)) t')) := Heap.SameBut.update ..
  exact q _ M2 (order.filterMap (rs[·]?)) (ep + 1) t' sb ⟨⟨_, store_at ho hd, ⟨hex.1, hex.2.1, hex.2.2⟩, rfl⟩, r1, T2, (r2.map (·.2)).nodup_iff.mpr nd, fun z hz => isT_same (tup z (r2.mem_iff.mp hz)) ho hd sb, by rw [epl]; exact pl, by rw [el]; exact ld, by rw [r2.length_eq, em]; exact hn⟩ r2
/-- one more -/
theorem add_w (B : SetW P w s.heap a M rs ep tb) {x : Addr} {k : List Int} (hx : IsT P w s.heap k x) (hu : A.units < cLine) (hk : k ∉ M.map (·.2)) (few : M.length < 200) {Q : Bool → Shared → Prop}
    (q : ∀ b h' M' rs' ep' tb', Heap.SameBut a s.heap h' → SetW P w h' a M' rs' ep' tb' → M'.Perm ((x, k) :: M) → Q b { s with heap := h' }) :
    wpAny (model P w) A (setAddHashed a (.ref x) (thash P w k)) Q E s := by
  obtain ⟨o, ho, hex, hd⟩ := B.at_
  have sz := B.size
  have room := B.rm
  unfold setAddHashed
  refine wpAny_holding ?_
  rw [show (100000 : Nat) = 99999 + 1 from rfl, setAddHashedIn_succ]
  refine wpAny_bind (wpAny_setState_of ho hd B.fits ?_)
  dsimp only
  refine wp_if_neg (by simp [byScan, Value.scannable]) ?_
  try refine wpAny_bind (wpAny_pure ?_)
  refine wpAny_bind (find_w B hx hu hk fun K hK hb => ?_)
  dsimp only
  refine wpAny_bind (wpAny_setState_of ho hd B.fits ?_)
  dsimp only
  obtain ⟨p, hp⟩ : ∃ p, p = SetTable.below tb.place (way tb.mask (thash P w k) K) := ⟨_, rfl⟩
  obtain ⟨p1, T1, f1⟩ := B.ok.put hK hb hp
  have fields : (tb.put (way tb.mask (thash P w k) K)).2 = p ∧ (tb.put (way tb.mask (thash P w k) K)).1.mask = tb.mask ∧ (tb.put (way tb.mask (thash P w k) K)).1.led = tb.led ∧ (tb.put (way tb.mask (thash P w k) K)).1.plain = tb.plain := ⟨hp.symm, rfl, rfl, rfl⟩
  generalize tb.put (way tb.mask (thash P w k) K) = pr at T1 f1 fields ⊢
  obtain ⟨t1, i⟩ := pr
  obtain ⟨rfl, m1, l1, pl1⟩ := fields
  dsimp only at T1 f1 m1 l1 pl1 ⊢
  have pl1 : t1.plain = true := pl1.trans B.pl
  first
    | (refine wpAny_bind ?_; refine wp_if_pos pl1 ?_; refine hashBy_tup hx ?_)
    | refine wp_if_pos pl1 (wpAny_bind (hashBy_tup hx ?_))
  simp only [if_true]
  have perm := put_perm M i (x, k)
  have rows : (SetTable.insertAt rs i (thash P w k, Value.ref x)).toList = rowsOf P w (M.take i ++ (x, k) :: M.drop i) := by rw [SetTable.toList_insertAt, rows_put, B.rw_]
  have T2 : TabW t1 ((M.take i ++ (x, k) :: M.drop i).map fun z => thash P w z.2) := by rw [List.map_append, List.map_cons, List.map_take, List.map_drop]; exact T1
  have nd : ((M.take i ++ (x, k) :: M.drop i).map (·.2)).Nodup := (perm.map (·.2)).nodup_iff.mpr (List.nodup_cons.mpr ⟨hk, B.one⟩)
  have len : (M.take i ++ (x, k) :: M.drop i).length = M.length + 1 := perm.length_eq
  have sz1 : (SetTable.insertAt rs i (thash P w k, Value.ref x)).size = M.length + 1 := by
    have e := congrArg List.length rows
    unfold rowsOf at e
    rw [Array.length_toList, List.length_map, len] at e
    exact e
  generalize SetTable.insertAt rs i (thash P w k, Value.ref x) = rs1 at rows sz1 ⊢
  generalize M.take i ++ (x, k) :: M.drop i = M1 at perm rows T2 nd len
  refine wpAny_bind (wpAny_storeSet_of ho hd ?_ (by rw [sz1, sizeLine_eq]; omega))
  have sb : Heap.SameBut a s.heap (s.heap.update a (Obj.putSet rs1 t1)) := Heap.SameBut.update ..
  have ho1 := store_at (es' := rs1) (t' := t1) ho hd
  generalize s.heap.update a (Obj.putSet rs1 t1) = h1 at sb ho1 ⊢
  have tup1 : ∀ z ∈ M1, IsT P w h1 z.2 z.1 := fun z hz => by
    rcases List.mem_cons.mp (perm.mem_iff.mp hz) with e | hz
    · rw [e]; exact isT_same hx ho hd sb
    · exact isT_same (B.tup z hz) ho hd sb
  have ld1 : w.params.followText "set-order" = true ∨ t1.led = true := by rw [l1]; exact B.ld
  have full : t1.tooFull = decide ((M.length + 1) * 5 ≥ tb.mask * 3) := by
    unfold SetTable.tooFull
    rw [f1, m1, List.length_map]
  by_cases hf : t1.tooFull = true
  · first
      | (refine wpAny_bind ?_; refine wp_if_pos (by simp [hf]) ?_)
      | (refine wp_if_pos (by simp [hf]) ?_; refine wpAny_bind ?_)
    have big : (M.length + 1) * 5 ≥ tb.mask * 3 := of_decide_eq_true (by rw [← full]; exact hf)
    rw [sz]
    have go : ∀ m, SetTable.sizeAbove (SetTable.grown (M.length + 1)) - 1 = m → MaskW m → SetTable.sizeAbove (SetTable.grown (M.length + 1)) ≤ 512 → (M.length + 1) * 5 < m * 3 →
        wpAny (model P w) A (setRelay a (SetTable.grown (M.length + 1))) (fun _ s' => wpAny (model P w) A (pure true) Q E s') E { s with heap := h1 } := fun m g1 g2 g3 g4 =>
      anew_w (s := { s with heap := h1 }) ho1 ⟨hex.1, hex.2.1, hex.2.2⟩ rfl rows T2 (by rw [len, m1]; omega) nd tup1 pl1 ld1 g1 g2 g3 (by rw [len]; exact g4)
        fun h2 M2 rs2 ep2 tb2 sb2 B2 pm2 => wpAny_pure (q true h2 M2 rs2 ep2 tb2 (sb.trans sb2) B2 (pm2.trans perm))
    have cs : (M.length = 4) ∨ (M.length = 18) ∨ (M.length = 76) := by
      rcases B.ok.mw with (e | e | e) | e <;> rw [e] at big room <;> omega
    rcases cs with e | e | e
    · exact go 31 (by rw [e, size_20]) (.inl (.inr (.inl rfl))) (by rw [e, size_20]; decide) (by omega)
    · exact go 127 (by rw [e, size_76]) (.inl (.inr (.inr rfl))) (by rw [e, size_76]; decide) (by omega)
    · exact go 511 (by rw [e, size_308]) (.inr rfl) (by rw [e, size_308]; decide) (by omega)
  · have nf : ¬ ((M.length + 1) * 5 ≥ tb.mask * 3) := fun z => hf (by rw [full]; exact decide_eq_true z)
    have fin : Q true { s with heap := h1 } := q true h1 M1 rs1 (ep + 1) t1 sb ⟨⟨_, ho1, ⟨hex.1, hex.2.1, hex.2.2⟩, rfl⟩, rows, T2, nd, tup1, pl1, ld1, by rw [len, m1]; omega⟩ perm
    first
      | (refine wp_if_neg (by simp [hf]) ?_; exact wpAny_pure fin)
      | (refine wpAny_bind ?_; refine wp_if_neg (by simp [hf]) ?_; refine wpAny_pure ?_; exact wpAny_pure fin)
end
end C7
namespace C7
open PySem PySem.Spec PyProof.Rows L2
section
variable {P : Program} {w : World} {A : Around} {E : Value → Shared → Prop} {s : Shared} {a : Addr} {M : List (Addr × List Int)} {rs : Array (Int × Value)} {ep : Nat} {tb : SetTable}
/-- the same, but for the tuples themselves -/
structure SetV (P : Program) (w : World) (h : Heap) (a : Addr) (M : List (Addr × List Int)) (rs : Array (Int × Value)) (ep : Nat) (tb : SetTable) : Prop where
  at_ : ∃ o, h.get? a = some o ∧ o.ExactSet ∧ o.data = .set rs ep tb
  rw_ : rs.toList = rowsOf P w M
  ok : TabW tb (M.map fun z => thash P w z.2)
  one : (M.map (·.2)).Nodup
  ld : w.params.followText "set-order" = true ∨ tb.led = true
  rm : M.length * 5 < tb.mask * 3
theorem SetW.v {h : Heap} (B : SetW P w h a M rs ep tb) : SetV P w h a M rs ep tb := ⟨B.at_, B.rw_, B.ok, B.one, B.ld, B.rm⟩
theorem SetV.keep {h h' : Heap} (B : SetV P w h a M rs ep tb) (k : ∀ o, h.get? a = some o → h'.get? a = some o) : SetV P w h' a M rs ep tb :=
  let ⟨o, ho, r⟩ := B.at_; ⟨⟨o, k o ho, r⟩, B.rw_, B.ok, B.one, B.ld, B.rm⟩
theorem SetV.size {h : Heap} (B : SetV P w h a M rs ep tb) : rs.size = M.length := by
  have e := congrArg List.length B.rw_
  rw [Array.length_toList] at e
  rw [e]; unfold rowsOf; rw [List.length_map]
theorem SetV.few {h : Heap} (B : SetV P w h a M rs ep tb) : M.length ≤ 306 := by have := B.rm; have := B.ok.mw.le; omega
theorem setW_fresh {h : Heap} (ho : h.get? a = some { cls := .type "set", dict := none, data := .set #[] 0 (.fresh 0 0 (!w.params.followText "set-order")) }) : SetW P w h a [] #[] 0 (.fresh 0 0 (!w.params.followText "set-order")) :=
  let R := setTR_fresh (P := P) ho; ⟨R.ob, R.rows, ⟨R.tab.ris, R.tab.dm, R.tab.sz, .inl R.tab.mok, R.tab.bd, R.tab.reach⟩, R.nd, R.tup, R.plain, R.led, R.room⟩
/-- the loop of set.update, over at most 200 tuples, no two alike -/
theorem upd_loopW {I : Addr} {fp wr : List Addr} {G : Array GenState → Array GenState → Prop} {n : Nat} {Pv : Nat → Value → Prop} {St : Nat → Shared → Prop} {R : Result → Shared → Prop}
    (W : WalksS P w A.in1 I fp wr G n Pv St) {S : Addr} (hS : S ∉ fp) {ks : List (Addr × List Int)} (hn : n = ks.length) (h64 : ks.length ≤ 200) (hnd : (ks.map (·.2)).Nodup) (hv : ∀ i v, Pv i v → ∃ z, ks[i]? = some z ∧ v = .ref z.1)
    {h0 : Heap} (hk : ∀ z ∈ ks, IsT P w h0 z.2 z.1) (hS0 : h0.get? S = none) (hw0 : ∀ b ∈ wr, h0.get? b = none) (hu : A.in1.units < cLine) (m : Nat) :
    ∀ (i : Nat) (s : Shared), i + m = n → St i s → (∀ b o, h0.get? b = some o → s.heap.get? b = some o) → (∃ M rs ep tb, SetW P w s.heap S M rs ep tb ∧ M.Perm (ks.take i)) →
      (∀ s' M rs ep tb, Moved (S :: wr) G s s' → SetW P w s'.heap S M rs ep tb → M.Perm (ks.take n) → (∀ b o, h0.get? b = some o → s'.heap.get? b = some o) → R (.ok (.ret .none)) s') →
      codeAny (model P w) A (.builtin "set.update.loop" ⟨[.ref S, .ref I], []⟩) R s := by
  have hSw : S ∉ wr := fun h => hS (W.sub _ h)
  have wide : ∀ b ∈ wr, b ∈ S :: wr := fun b hb => List.mem_cons_of_mem _ hb
  have stay : ∀ {s s' : Shared}, Moved wr G s s' → (∀ b o, h0.get? b = some o → s.heap.get? b = some o) → ∀ b o, h0.get? b = some o → s'.heap.get? b = some o := fun mv g b o e => mv.heap b o (fun hb => by rw [hw0 b hb] at e; cases e) (g b o e)
  induction m with
  | zero =>
    rintro i s e hst g0 ⟨M, rs, ep, tb, B, g⟩ q
    have e : i = n := e
    subst e
    refine codeAny_builtin F.entry_set_update_loop ?_
    rw [Around.under_plainId F.plain_set_update_loop _]
    show wpAny _ A.in1 (pyNext (.ref I) >>= _) _ _ s
    exact wpAny_bind (W.done s _ _ hst fun s' mv => wpAny_pure (q s' M rs ep tb (mv.mono wide) (B.keep (fun o e => mv.heap S o hSw e) fun z hz => isT_keep (hk z (List.mem_of_mem_take (g.mem_iff.mp hz))) (stay mv g0)) g (stay mv g0)))
  | succ m ih =>
    rintro i s e hst g0 ⟨M, rs, ep, tb, B, g⟩ q
    refine codeAny_builtin F.entry_set_update_loop ?_
    rw [Around.under_plainId F.plain_set_update_loop _]
    show wpAny _ A.in1 (pyNext (.ref I) >>= _) _ _ s
    refine wpAny_bind (W.item i s _ _ (by omega) hst fun v s' hP hst' mv => ?_)
    obtain ⟨z, hz, rfl⟩ := hv i v hP
    have g1 := stay mv g0
    have B1 := B.keep (fun o e => mv.heap S o hSw e) fun z hz => isT_keep (hk z (List.mem_of_mem_take (g.mem_iff.mp hz))) g1
    have ml : M.length = min i ks.length := by rw [g.length_eq, List.length_take]
    have il : i < ks.length := (List.getElem?_eq_some_iff.mp hz).1
    have new : z.2 ∉ M.map (·.2) := fun c => by
      obtain ⟨y, hy, e9⟩ := List.mem_map.mp c
      obtain ⟨j, hj, ej⟩ := List.getElem_of_mem (g.mem_iff.mp hy)
      rw [List.length_take] at hj
      rw [List.getElem_take] at ej
      have hji : j < i := by omega
      have ne := List.pairwise_iff_getElem.mp hnd j i (by rw [List.length_map]; omega) (by rw [List.length_map]; exact il) hji
      rw [List.getElem_map, List.getElem_map, ej, (List.getElem?_eq_some_iff.mp hz).2] at ne
      exact ne e9
    have hx : IsT P w s'.heap z.2 z.1 := isT_keep (hk z (List.mem_of_getElem? hz)) g1
    show wpAny _ A.in1 (holding [Value.ref z.1] (setAdd S (.ref z.1)) >>= _) _ _ s'
    refine wpAny_bind (wpAny_holding ?_)
    unfold setAdd
    refine wpAny_holding (wpAny_bind (wpAny_pyHash_tuple hu hx ?_))
    refine add_w (s := { s' with toks := s'.toks + (z.2.length + 1) }) B1 hx hu new (by omega) fun b h' M' rs' ep' tb' sb B' pm => ?_
    have g2 : M'.Perm (ks.take (i + 1)) := by
      rw [take_next hz]
      exact pm.trans ((g.cons z).trans (List.perm_append_singleton z _).symm)
    refine wpAny_pure ⟨plainId_quiet F.plain_set_update_loop _, ih (i + 1) _ (by omega) (W.frame _ s' _ _ hst' (Nat.le_add_right _ _) fun b hb o e => ?_) (fun b o e => ?_) ⟨M', rs', ep', tb', B', g2⟩ fun s2 M2 rs2 ep2 tb2 mv2 B2 g3 k2 => ?_⟩
    · rw [sb.2 b (fun h : b = S => hS (by rw [← h]; exact hb))]; exact e
    · exact (sb.2 b (fun h => by rw [h, hS0] at e; cases e)).trans (g1 b o e)
    · refine q s2 M2 rs2 ep2 tb2 (Moved.trans W.gtrans ((mv.mono wide).then_heap (Nat.le_add_right _ _) fun b o hb e => ?_) mv2) B2 g3 k2
      rw [sb.2 b (fun h : b = S => hb (by rw [h]; exact List.mem_cons_self))]; exact e
/-- a set as it is made -/
abbrev set0W (w : World) : Obj := { cls := .type "set", dict := none, data := .set #[] 0 (.fresh 0 0 (!w.params.followText "set-order")) }
/-- set(xs), xs a list of at most 200 tuples, no two alike -/
theorem call_setW {l : Addr} {items : Array Value} {ks : List (Addr × List Int)} {Q : Value → Shared → Prop} (hh : A.handled = none) (hl : s.heap.IsList l items) (hit : items.toList = ks.map fun z => Value.ref z.1)
    (hk : ∀ z ∈ ks, IsT P w s.heap z.2 z.1) (h64 : ks.length ≤ 200) (hnd : (ks.map (·.2)).Nodup) (hu : A.units + 3 < cLine)
    (q : ∀ (h' : Heap) (tk : Nat) M rs ep tb, SetW P w h' s.heap.objs.size M rs ep tb → M.Perm ks → (∀ b o, s.heap.get? b = some o → h'.get? b = some o) → Q (.ref s.heap.objs.size) { s with heap := h', toks := tk }) :
    wpAny (model P w) A (call (.type "set") [.ref l]) Q E s := by
  have size : items.size = ks.length := by
    have e := congrArg List.length hit
    rw [Array.length_toList, List.length_map] at e
    exact e
  obtain ⟨c, tl, hmro⟩ := F.called_set.mro
  have made := F.called_set.made
  have sub := F.called_set.sub
  refine wpAny_call (codeAny_of_tree ?_)
  show wpAny _ _ (callAny (.type "set") _) _ _ _
  refine wpAny_pure ⟨Code.quiet_builtin _ (by decide +kernel), codeAny_builtin F.entry_type_call ?_⟩
  rw [Around.under_plain (weight_type_call_type "set" [.ref l] []) rfl]
  have n1 := F.called_set.notType
  have n2 := F.called_set.canCreate
  have n3 := F.typeCall_set_1 (.ref l)
  repeat (any_goals (first | assumption | wp_step))
  refine codeAny_mono (code_set_led1 (.ref l) (E := E) (Q₁ := fun obj s1 => obj = .ref s.heap.objs.size ∧ s1 = { s with heap := s.heap.push (set0W w) }) ⟨rfl, rfl⟩) fun r s1 hr => ?_
  match r, hr with
  | .error e, hr => exact hr
  | .ok (.ret obj), hr =>
    obtain ⟨rfl, rfl⟩ := hr
    have at0 : (s.heap.push (set0W w)).get? s.heap.objs.size = some (set0W w) := Heap.get?_push_size _ rfl
    have ty : Shared.TypeIs { s with heap := s.heap.push (set0W w) } (.ref s.heap.objs.size) "set" := ⟨_, at0, rfl⟩
    have i1 := F.called_set.init.lookup
    have i2 := F.called_set.init.bind (.ref s.heap.objs.size)
    repeat (any_goals (first | assumption | wp_step))
    refine codeAny_mono (codeAny_call_builtin (R := wants (fun r s2 => r = .none ∧ ∃ h' tk M rs ep tb, s2 = { s with heap := h', toks := tk } ∧ SetW P w h' s.heap.objs.size M rs ep tb ∧ M.Perm ks ∧ ∀ b o, s.heap.get? b = some o → h'.get? b = some o) E) F.called_set.init.plain F.entry_set_init (check_set_init_1 ty ?_)) fun r2 s2 hr2 => ?_
    · have lt := hl
      obtain ⟨ol, hol, hcl, nl, hdl⟩ := hl
      obtain ⟨ocls, odict, odata, oslots⟩ := ol
      simp only at hcl hdl
      subst hcl hdl
      have hol1 : (s.heap.push (set0W w)).get? l = some { cls := .type "list", dict := odict, data := .seq items nl, slots := oslots } := Heap.get?_push_of_some _ hol
      have sl1 := F.sub_list_set
      have sl2 := F.sub_list_frozenset
      have ne : (Value.type "list" == Value.type "dict") = false := by decide
      have lst1 : (s.heap.push (set0W w)).IsList l items := ⟨_, hol1, rfl, nl, rfl⟩
      have lS : l < s.heap.objs.size := Heap.lt_size hol
      have h3 : A.in1.in1.in1.handled = none := by simp [hh]
      have none_at : ∀ b, s.heap.objs.size ≤ b → s.heap.get? b = none := fun b hb => Option.eq_none_iff_forall_not_mem.mpr fun o ho => absurd (Heap.lt_size ho) (Nat.not_lt.mpr hb)
      have val : ∀ (i : Nat) (v : Value), items[i]? = some v → ∃ z, ks[i]? = some z ∧ v = .ref z.1 := fun i v hv => by
        rw [← Array.getElem?_toList, hit, List.getElem?_map, Option.map_eq_some_iff] at hv
        obtain ⟨z, hz, e⟩ := hv
        exact ⟨z, hz, e.symm⟩
      unfold Builtin.«set.__init__» noKeywords Builtin.Frozenset.updateFrom
      generalize hPI : pyIter = PI
      wp_walk
      subst hPI
      refine wpAny_pyIter_list lst1 (wpAny_bind (wpAny_runValue ?_))
      refine upd_loopW ((Walks.list h3 _ l (by rw [Heap.size_push]; exact Nat.ne_of_lt (Nat.lt_succ_of_lt lS)) items).toS) (S := s.heap.objs.size) (by rw [Heap.size_push]; simp only [List.mem_cons, List.not_mem_nil, or_false, not_or]; exact ⟨Nat.ne_of_lt (Nat.lt_succ_self _), Nat.ne_of_gt lS⟩) size h64 hnd val (h0 := s.heap) hk (none_at _ (Nat.le_refl _)) (fun b hb => none_at b (by rw [List.mem_singleton.mp hb, Heap.size_push]; exact Nat.le_succ _)) hu items.size 0 _ (Nat.zero_add _)
        ⟨⟨_, Heap.get?_push_size _ rfl, rfl, rfl⟩, (lst1.push _)⟩ (fun b o e => Heap.get?_push_of_some _ (Heap.get?_push_of_some _ e)) ⟨[], #[], 0, _, setW_fresh (Heap.get?_push_of_some _ at0), List.Perm.refl _⟩ fun s' M rs ep tb mv B g kp => ?_
      obtain ⟨h', g2, d', tk', os'⟩ := s'
      have e1 : g2 = s.gens := mv.gens
      have e2 : d' = s.drawn := mv.drawn
      have e3 : os' = s.os := mv.os
      subst e1 e2 e3
      show wpAny _ _ _ _ _ _
      refine wpAny_pure ?_
      show wpAny _ _ (ret Value.none) _ _ _
      rw [size, List.take_length] at g
      exact wpAny_pure ⟨rfl, h', tk', M, rs, ep, tb, rfl, B, g, kp⟩
    · match r2, hr2 with
      | .error e, hr2 => exact hr2
      | .ok (.ret r), hr2 =>
        obtain ⟨rfl, h', tk, M, rs, ep, tb, rfl, B, g, kp⟩ := hr2
        repeat (any_goals (first | assumption | wp_step))
        exact q _ _ _ _ _ _ B g kp
      | .ok .next, hr2 => exact hr2.elim
      | .ok .brk, hr2 => exact hr2.elim
      | .ok .cont, hr2 => exact hr2.elim
  | .ok .next, hr => exact hr.elim
  | .ok .brk, hr => exact hr.elim
  | .ok .cont, hr => exact hr.elim
theorem sorted_wide {Q : Value → Shared → Prop} (R : SetV P w s.heap a M rs ep tb) (ht : ∀ z ∈ M, IsT P w s.heap z.2 z.1) (hh : A.handled = none) (hu : A.units + 10 < cLine)
    (h2 : ∀ z ∈ M, ∃ x y, z.2 = [x, y])
    (hQ : ∀ s' p (out : Array Value) (c : Nat), (∀ b o, s.heap.get? b = some o → s'.heap.get? b = some o) ∧ s'.gens = s.gens ∧ s'.os = s.os ∧ s.heap.objs.size ≤ p ∧ s'.heap.get? p = some (seqObj "list" out c) →
      ∀ N : List (Addr × List Int), out.toList = N.map (fun z => Value.ref z.1) → N.Perm M → N.Pairwise (fun x y => leP (pairOf x) (pairOf y) = true) → Q (.ref p) s') : wpAny (model P w) A (call (.builtin "sorted") [.ref a]) Q E s := by
  obtain ⟨ob, hob, hex, hdt⟩ := R.at_
  have few := R.few
  have sz := R.size
  refine Calls.call_function_entry kind_sorted plain_sorted entry_sorted (args_sorted1 _) ?_
  show wpAny _ _ (Builtin.«sorted» _) _ _ _
  unfold Builtin.«sorted»
  refine wpAny_bind (m := checkCount "sorted" 1 1 _) (wpAny_pure (wpAny_bind (collect_set (A := A.in1) hh ⟨ob, hob, hex.1, hdt⟩ (fits_w R.ok (by rw [List.length_map, R.size]) (by rw [R.size]; have := R.rm; omega)) (by unfold scanBound; omega) R.ok.ris R.ld fun s1 vs k1 hz g1 o1 pm => ?_)))
  have hes : rs.toList.map (·.2) = M.map fun z => Value.ref z.1 := by rw [R.rw_]; unfold rowsOf; rw [List.map_map]; rfl
  rw [hes] at pm
  have uniq : ∀ x ∈ M, ∀ y ∈ M, x.1 = y.1 → x = y := fun x hx y hy e => by
    have u1 := ht x hx
    rw [e] at u1
    exact Prod.ext e (u1.inj (ht y hy))
  obtain ⟨N, n1, n2⟩ := refs_back (M := M) vs fun v hv => by
    obtain ⟨z, hz, e⟩ := List.mem_map.mp (pm.mem_iff.mp hv)
    exact ⟨z, hz, e.symm⟩
  have nM : M.Nodup := nodup_of_map R.one
  have nR : (M.map fun z => Value.ref z.1).Nodup := List.pairwise_map.mpr (List.Pairwise.imp_of_mem (fun {x y} hx hy ne e => by
    injection e with e
    exact ne (uniq x hx y hy e)) nM)
  have nN : N.Nodup := nodup_of_map (f := fun z => Value.ref z.1) (by rw [← n2]; exact pm.nodup_iff.mpr nR)
  have pN : N.Perm M := (List.perm_ext_iff_of_nodup nN nM).mpr fun z => ⟨n1 z, fun hz => by
    have m1 : Value.ref z.1 ∈ vs := pm.mem_iff.mpr (List.mem_map.mpr ⟨z, hz, rfl⟩)
    rw [n2] at m1
    obtain ⟨y, hy, e⟩ := List.mem_map.mp m1
    injection e with e
    rw [← uniq y (n1 y hy) z hz e]
    exact hy⟩
  have nl : N.length = M.length := pN.length_eq
  have vl : vs.length ≤ 306 := by rw [n2, List.length_map]; omega
  refine wpAny_bind (wpAny_newList ?_ (by rw [sizeLine_eq]; omega))
  have hL : (s1.heap.push (seqObj "list" vs.toArray 0)).get? s1.heap.objs.size = some (seqObj "list" vs.toArray 0) := Heap.get?_push_size _ rfl
  have rd : ∀ z ∈ N, ∃ as, Reads (s1.heap.push (seqObj "list" vs.toArray 0)) (Value.ref z.1) (.tuple [.int (z.2.getD 0 0), .int (z.2.getD 1 0)]) as ∧ s1.heap.objs.size ∉ as := fun z hz => by
    obtain ⟨o, its, n, ho, hc, hd, hi⟩ := ht z (n1 z hz)
    obtain ⟨x, y, e⟩ := h2 z (n1 z hz)
    have hi' := ints_of_items hi
    rw [e] at hi' ⊢
    refine ⟨[], .tuple (Heap.get?_push_of_some _ (k1 _ _ ho)) hc hd ?_, fun z => nomatch z⟩
    generalize its.toList = us at hi'
    cases hi' with
    | cons p t hi2 =>
      cases hi2 with
      | cons q u hi3 =>
        cases hi3
        exact .cons (.int _ _) (.cons (.int _ _) .nil)
  refine wpAny_bind (wpAny_holding (PySem.W.list_sort_data (s := { s1 with heap := s1.heap.push (seqObj "list" vs.toArray 0) }) (bs := N) (R := fun (v : Value) (b : Addr × List Int) => v = Value.ref b.1) (enc := fun b => .tuple [.int (b.2.getD 0 0), .int (b.2.getD 1 0)]) hL (by rw [n2]; exact refs_each N fun z _ => rfl) (by rw [n2] at rd ⊢; exact refs_each N rd) ?_ ?_ (by rw [sizeLine_eq]; omega) ?_ fun out ol oe => ?_))
  · intro d1 hd1 d2 hd2
    obtain ⟨x, _, rfl⟩ := List.mem_map.mp hd1
    obtain ⟨y, _, rfl⟩ := List.mem_map.mp hd2
    rfl
  · refine .inl fun d hd => ?_
    obtain ⟨x, _, rfl⟩ := List.mem_map.mp hd
    exact ⟨_, _, rfl⟩
  · intro b _
    show _ + 1 + PyData.depth (.tuple [.int _, .int _]) < cLine
    have : PyData.depth (.tuple [.int (b.2.getD 0 0), .int (b.2.getD 1 0)]) ≤ 1 := by simp [PyData.depth, PyData.depthAll]
    have : A.in1.units ≤ A.units + 1 := by first | exact Nat.le_refl _ | (show _ ≤ _; simp [Around.in1]) | omega
    omega
  obtain ⟨c, hc⟩ := sortedHeap_at (vs := vs) (out := out.toArray) hL
  have eo := each_refs (M := M) oe
  refine wpAny_pure ⟨_, rfl, hQ _ s1.heap.objs.size out.toArray c ⟨fun b u e => ?_, g1, o1, hz, hc⟩ _ (by rw [List.toList_toArray]; exact eo) ((List.mergeSort_perm _ _).trans pN) ?_⟩
  · have q := k1 b u e
    have lt := Heap.lt_size q
    refine (sortedHeap_old (Nat.ne_of_lt lt) ?_).trans (Heap.get?_push_of_some _ q)
    rw [size_push']
    exact Nat.lt_succ_of_lt lt
  · have le : PySem.W.dataLe false (fun b : Addr × List Int => PyData.tuple [.int (b.2.getD 0 0), .int (b.2.getD 1 0)]) = fun x y => leP (pairOf x) (pairOf y) := PySem.W.dataLe_ii (fun b : Addr × List Int => b.2.getD 0 0) (fun b => b.2.getD 1 0)
    rw [le]
    refine List.pairwise_mergeSort (fun x y z h1 h2 => ?_) (fun x y => ?_) N
    · unfold leP at h1 h2 ⊢
      simp only [decide_eq_true_eq] at h1 h2 ⊢
      omega
    · unfold leP
      simp only [Bool.or_eq_true, decide_eq_true_eq]
      omega
end
/-- the set on the heap -/
def Wid0 (P : Program) (w : World) (h : Heap) (a : Addr) (M : List (Addr × List Int)) : Prop := ∃ rs ep tb, SetV P w h a M rs ep tb
def WidO (P : Program) (w : World) (a : Addr) (M : List (Addr × List Int)) : HO := .ext fun h => Wid0 P w h a M
theorem widO_ok {P : Program} {w : World} {H : Hp} {h : Heap} {a : Addr} {M : List (Addr × List Int)} (R : Wid0 P w h a M) : ObjOk P w H h a (WidO P w a M) := by
  refine ⟨R, ?_, fun h1 h2 B k => ?_⟩
  · obtain ⟨rs, ep, tb, B⟩ := R
    obtain ⟨o, ho, _⟩ := B.at_
    exact ⟨o, ho⟩
  · have ⟨rs, ep, tb, B⟩ := B
    exact ⟨rs, ep, tb, B.keep k⟩
theorem nodup_two {zs : List (Int × Int)} (h : zs.Nodup) : (zs.map (fun z => [z.1, z.2])).Nodup := by
  refine List.pairwise_map.mpr (List.Pairwise.imp (fun {x y} ne e => ne ?_) h)
  injection e with e1 e2
  injection e2 with e2
  exact Prod.ext e1 e2
section
variable {X : Cx}
def rSetWid (K : Frag) (P : Program) (w : World) : List V → Hp → VK → Prop := fun xs H Q => ∃ (l : Addr) (ks : List (Addr × List Int)), xs = [V.ref l] ∧ SqL K H l (ks.map fun z => V.ref z.1) ∧ (∀ z ∈ ks, SqT K H z.1 (z.2.map V.int)) ∧ ks.length ≤ 200 ∧ (ks.map (·.2)).Nodup ∧
  ∀ a M, H a = none → (∀ z ∈ M, z ∈ ks) → (∀ z ∈ ks, z.2 ∈ M.map (·.2)) → Q (.ref a) (upd H a (WidO P w a M))
theorem cr_setWid (hc : X.calm = true) (hu : X.A.units + 64 < cLine) : CallR X (.type "set") (rSetWid X.K X.prog X.w) := by
  intro pins s σ H xs us Q I r h
  obtain ⟨l, ks, rfl, hl, hk, hf, hnd, q⟩ := h
  rw [Vals.ref1 r]
  obtain ⟨its, rv, pl, hz⟩ := I.list hl
  refine call_setW (P := X.prog) (w := X.w) (ks := ks) (I.ok.hd hc) pl.isList (by simpa using refs_of_vals rv) (fun z hz => I.isT (hk z hz)) hf hnd (by omega) fun h' tk M rs ep tb B g k => ?_
  exact ⟨.ref s.heap.objs.size, upd H s.heap.objs.size (WidO X.prog X.w s.heap.objs.size M), I.laid (t' := tk) k (Nat.le_refl _) (widO_ok ⟨rs, ep, tb, B.v⟩), rfl, q _ M (I.hok.fresh (Nat.le_refl _)) (fun z hz => g.mem_iff.mp hz) fun z hz => List.mem_map.mpr ⟨z, g.mem_iff.mpr hz, rfl⟩⟩
def rSrtWid (K : Frag) (P : Program) (w : World) : List V → Hp → VK → Prop := fun vs H Q => ∃ (a : Addr) (M : List (Addr × List Int)), vs = [V.ref a] ∧ H a = some (WidO P w a M) ∧ (∀ z ∈ M, SqT K H z.1 (z.2.map V.int)) ∧ (∀ z ∈ M, ∃ x y, z.2 = [x, y]) ∧
  ∀ (N : List (Addr × List Int)) (p : Addr), N.Perm M → (N.map (·.2)).Nodup → N.Pairwise (fun x y => leP (pairOf x) (pairOf y) = true) → H p = none → Q (.ref p) (upd H p (.lst (N.map fun z => V.ref z.1)))
theorem cr_srtWid (hc : X.calm = true) (hu : X.A.units + 64 < cLine) : CallR X (.builtin "sorted") (rSrtWid X.K X.prog X.w) := by
  intro pins s σ H vs us Q I r h
  obtain ⟨a, M, rfl, ha, hk, h2, q⟩ := h
  have R0 : Wid0 X.prog X.w s.heap a M := (I.hok a _ ha).1
  obtain ⟨es, ep, tb, R⟩ := R0
  rw [Vals.ref1 r]
  refine sorted_wide R (fun p hp => I.isT (hk p hp)) (I.ok.hd hc) (by omega) h2 fun s' p out c ⟨k, g, o, hp, hg⟩ N hout pm pw => ?_
  have few := R.few
  have hlen : (N.map fun z => V.ref z.1).length ≤ sizeLine := by rw [List.length_map, pm.length_eq, sizeLine_eq]; omega
  have hv : Vals (N.map fun z => V.ref z.1) out.toList := by rw [hout]; exact vals_of_refs N
  have hn : H p = none := I.hok.fresh hp
  have e : s' = { s with heap := s'.heap, gens := s'.gens, drawn := s'.drawn, toks := s'.toks } := by
    obtain ⟨_, _, _, _, _⟩ := s'
    obtain ⟨_, _, _, _, _⟩ := s
    cases o
    rfl
  rw [e]
  have ob : ObjOk X.prog X.w (upd H p (.lst (N.map fun z => V.ref z.1))) s'.heap p (.lst (N.map fun z => V.ref z.1)) := ⟨hlen, out.toList, c, hv, hg⟩
  exact ⟨.ref p, _, I.call (ch := []) (Un.laid k hp hn) (I.hok.laid k hp ob) (by rw [g]; exact I.bare) (fun _ z => nomatch z), rfl, q N p pm ((pm.map (·.2)).nodup_iff.mpr R.one) pw hn⟩
variable {ρ : Ro} {A : AH} {a : Expr} {x : D} {zs : List (Int × Int)} {p0 p2 pos pos2 : Pos} {lv : Nat}
theorem al_sortedWid (hr : Room lv X.A) (hc : X.calm = true) (hg : Gl X "sorted") (hg2 : Gl X "set") (hm : X.mg "sorted" = none) (hm2 : X.mg "set" = none) (h : AV X a ρ A x) (hl : IsL A x (zs.map ipp)) (h64 : zs.length ≤ 200) (hnd : zs.Nodup)
    (hs : starEach [a] X.env = [(false, eval a X.env)] := by rfl) : AL X (.Call (.Name "sorted" p0) [.Call (.Name "set" p2) [a] [] pos2] [] pos) ρ A ((srtP zs).map ipp) := fun k q σ H s Q qq =>
  tm_of (pe_callB (cr_srtWid hc hr.units) hg hm (by decide +kernel) (pa_cons (pe_callTy (cr_setWid hc hr.units) hg2 hm2 (by decide +kernel) (pa_cons (pe_tm a) pa_nil hs) (he := hs) (hpl := rfl)) pa_nil rfl) (he := rfl) (hpl := rfl)) (h σ H s _ fun v H1 t1 r1 l1 => by
    obtain ⟨b, vs, rfl, b1, b2⟩ := hl.sq r1 l1
    obtain ⟨ks, rfl, k2, k3⟩ := pairs_at b2
    refine ⟨b, ks, rfl, b1, k2, by rw [← List.length_map (f := (·.2)), k3, List.length_map]; exact h64, by rw [k3]; exact nodup_two hnd, fun c M hc0 m1 m2 => ?_⟩
    have tS : TS H1 (upd H1 c (WidO X.prog X.w c M)) := TS.new hc0
    have two : ∀ z ∈ ks, ∃ x y, z.2 = [x, y] := fun z hz => by
      have : z.2 ∈ zs.map (fun z => [z.1, z.2]) := by rw [← k3]; exact List.mem_map.mpr ⟨z, hz, rfl⟩
      obtain ⟨u, _, e⟩ := List.mem_map.mp this
      exact ⟨u.1, u.2, e.symm⟩
    refine ⟨c, M, rfl, upd_same, fun z hz => tS.sq (k2 z (m1 z hz)), fun z hz => two z (m1 z hz), fun N p pm nd pw hp => ?_⟩
    have hN : ∀ z ∈ N, SqT X.K (upd H1 c (WidO X.prog X.w c M)) z.1 (z.2.map V.int) ∧ ∃ x y, z.2 = [x, y] := fun z hz => ⟨tS.sq (k2 z (m1 z (pm.mem_iff.mp hz))), two z (m1 z (pm.mem_iff.mp hz))⟩
    have e : N.map pairOf = srtP zs := by
      refine srt_one ?_ (sorted_srtP zs) fun z => ?_
      · rw [List.pairwise_map]
        refine List.Pairwise.imp_of_mem (fun {x y} hx hy h => ?_) (List.Pairwise.and pw (List.pairwise_map.mp nd))
        obtain ⟨_, x1, x2, ex⟩ := hN x hx
        obtain ⟨_, y1, y2, ey⟩ := hN y hy
        have h1 := h.1
        have h2 := h.2
        unfold pairOf at h1 ⊢
        rw [leP_iff] at h1
        rw [ltP_iff]
        rw [ex, ey] at h1 h2 ⊢
        have h1 : x1 < y1 ∨ (x1 = y1 ∧ x2 ≤ y2) := h1
        show x1 < y1 ∨ (x1 = y1 ∧ x2 < y2)
        have : ¬ (x1 = y1 ∧ x2 = y2) := fun q => h2 (by rw [q.1, q.2])
        omega
      · rw [mem_srtP, List.mem_map]
        constructor
        · rintro ⟨u, hu, rfl⟩
          have : u.2 ∈ zs.map (fun z => [z.1, z.2]) := by rw [← k3]; exact List.mem_map.mpr ⟨u, m1 u (pm.mem_iff.mp hu), rfl⟩
          obtain ⟨y, hy, e⟩ := List.mem_map.mp this
          unfold pairOf
          rw [← e]
          exact hy
        · intro hz
          have : [z.1, z.2] ∈ ks.map (·.2) := by rw [k3]; exact List.mem_map.mpr ⟨z, hz, rfl⟩
          obtain ⟨u, hu, e⟩ := List.mem_map.mp this
          obtain ⟨y, hy, ey⟩ := List.mem_map.mp (m2 u hu)
          refine ⟨y, pm.mem_iff.mpr hy, ?_⟩
          unfold pairOf
          rw [show y.2 = u.2 from ey, show u.2 = [z.1, z.2] from e]
          rfl
    have nl := (l1.newAny (u := WidO X.prog X.w c M) hc0).newL hp (pairs_rp N hN)
    rw [e] at nl
    have hA : A p = none := (l1.newAny (u := WidO X.prog X.w c M) hc0).none hp
    exact qq _ _ _ _ (t1.trans (tS.trans nl.1)) (.ref p) nl.2 (q p hA))
theorem av_sortedWid (hr : Room lv X.A) (hc : X.calm = true) (hg : Gl X "sorted") (hg2 : Gl X "set") (hm : X.mg "sorted" = none) (hm2 : X.mg "set" = none) (h : AV X a ρ A x) (hl : IsL A x (zs.map ipp)) (h64 : zs.length ≤ 200) (hnd : zs.Nodup)
    (hs : starEach [a] X.env = [(false, eval a X.env)] := by rfl) : AV X (.Call (.Name "sorted" p0) [.Call (.Name "set" p2) [a] [] pos2] [] pos) ρ A (.fz ((srtP zs).map ipp)) := (al_sortedWid hr hc hg hg2 hm hm2 h hl h64 hnd hs).av
end
end C7
namespace Lw
open PySem PySem.Spec PyProof.Rows L2 C7
def topS (i : Nat) : Stmt := PySem.Challenge.pw_curveseat_k50_a_line_or_a_common_point.main.body.getD i (.Pass ⟨0, 0, 0, 0⟩)
abbrev s_common_part : Stmt := topS 4
theorem sc_common_part : FnScope ["one", "other", "whole", "rest"] ["one", "other"] (defScope s_common_part) := ⟨rfl, rfl, rfl, by decide +kernel, rfl, by decide +kernel, by decide +kernel⟩
abbrev s_share : Stmt := topS 5
theorem sc_share : FnScope ["top", "bottom", "part"] ["top", "bottom"] (defScope s_share) := ⟨rfl, rfl, rfl, by decide +kernel, rfl, by decide +kernel, by decide +kernel⟩
abbrev s_plus : Stmt := topS 6
theorem sc_plus : FnScope ["one", "other"] ["one", "other"] (defScope s_plus) := ⟨rfl, rfl, rfl, by decide +kernel, rfl, by decide +kernel, by decide +kernel⟩
abbrev s_whole_points : Stmt := topS 8
theorem sc_whole_points : FnScope ["points", "bottom", "place", "one", "found", "x", "y"] ["points"] (defScope s_whole_points) := ⟨rfl, rfl, rfl, by decide +kernel, rfl, by decide +kernel, by decide +kernel⟩
abbrev s_goes_left : Stmt := topS 9
theorem sc_goes_left : FnScope ["one", "other", "third", "ahead"] ["one", "other", "third"] (defScope s_goes_left) := ⟨rfl, rfl, rfl, by decide +kernel, rfl, by decide +kernel, by decide +kernel⟩
abbrev s_chain : Stmt := topS 10
theorem sc_chain : FnScope ["some", "found", "place"] ["some"] (defScope s_chain) := ⟨rfl, rfl, rfl, by decide +kernel, rfl, by decide +kernel, by decide +kernel⟩
abbrev s_hull_of_whole : Stmt := topS 11
theorem sc_hull_of_whole : FnScope ["some", "order"] ["some"] (defScope s_hull_of_whole) := ⟨rfl, rfl, rfl, by decide +kernel, rfl, by decide +kernel, by decide +kernel⟩
abbrev s_turn_of : Stmt := topS 14
theorem sc_turn_of : FnScope ["one", "other"] ["one", "other"] (defScope s_turn_of) := ⟨rfl, rfl, rfl, by decide +kernel, rfl, by decide +kernel, by decide +kernel⟩
abbrev s_along : Stmt := topS 15
theorem sc_along : FnScope ["one", "other"] ["one", "other"] (defScope s_along) := ⟨rfl, rfl, rfl, by decide +kernel, rfl, by decide +kernel, by decide +kernel⟩
abbrev s_steps_between : Stmt := topS 16
theorem sc_steps_between : FnScope ["some", "others", "found", "i", "one", "j", "other"] ["some", "others"] (defScope s_steps_between) := ⟨rfl, rfl, rfl, by decide +kernel, rfl, by decide +kernel, by decide +kernel⟩
abbrev s_ahead_of : Stmt := topS 17
theorem sc_ahead_of : FnScope ["one"] ["one"] (defScope s_ahead_of) := ⟨rfl, rfl, rfl, by decide +kernel, rfl, by decide +kernel, by decide +kernel⟩
abbrev s_ahead_of_two : Stmt := topS 18
theorem sc_ahead_of_two : FnScope ["one", "other", "turn", "way"] ["one", "other"] (defScope s_ahead_of_two) := ⟨rfl, rfl, rfl, by decide +kernel, rfl, by decide +kernel, by decide +kernel⟩
abbrev s_ahead_of_all : Stmt := topS 19
theorem sc_ahead_of_all : FnScope ["corners", "k", "corner", "last"] ["corners"] (defScope s_ahead_of_all) := ⟨rfl, rfl, rfl, by decide +kernel, rfl, by decide +kernel, by decide +kernel⟩
abbrev s_parts_of_two : Stmt := topS 20
theorem sc_parts_of_two : FnScope ["one", "other", "far", "near"] ["one", "other"] (defScope s_parts_of_two) := ⟨rfl, rfl, rfl, by decide +kernel, rfl, by decide +kernel, by decide +kernel⟩
abbrev s_parts_of : Stmt := topS 21
theorem sc_parts_of : FnScope ["corners", "first", "k", "one", "other", "parts", "part"] ["corners"] (defScope s_parts_of) := ⟨rfl, rfl, rfl, by decide +kernel, rfl, by decide +kernel, by decide +kernel⟩
abbrev s_line_by : Stmt := topS 22
theorem sc_line_by : FnScope ["way", "some", "others", "bottom", "near", "far", "place"] ["way", "some", "others", "bottom"] (defScope s_line_by) := ⟨rfl, rfl, rfl, by decide +kernel, rfl, by decide +kernel, by decide +kernel⟩
abbrev s_common_by : Stmt := topS 23
theorem sc_common_by : FnScope ["parts", "steps", "many", "more", "ones", "others", "whole", "corner", "much", "i", "j", "k", "part"] ["parts", "steps", "many", "more"] (defScope s_common_by) := ⟨rfl, rfl, rfl, by decide +kernel, rfl, by decide +kernel, by decide +kernel⟩
abbrev s_parting : Stmt := topS 24
theorem sc_parting : FnScope ["one", "other", "bottom", "places", "some", "others", "steps", "corners", "way"] ["one", "other"] (defScope s_parting) := ⟨rfl, rfl, rfl, by decide +kernel, rfl, by decide +kernel, by decide +kernel⟩
abbrev s__law_cell_at : Stmt := topS 26
theorem sc__law_cell_at : FnScope ["_law_script", "_law_k"] ["_law_script", "_law_k"] (defScope s__law_cell_at) := ⟨rfl, rfl, rfl, by decide +kernel, rfl, by decide +kernel, by decide +kernel⟩
abbrev s__law_stream : Stmt := topS 27
theorem sc__law_stream : FnScope ["_law_cell", "_law_place", "_law_number", "_law_some", "_law_k"] ["_law_cell", "_law_place"] (defScope s__law_stream) := ⟨rfl, rfl, rfl, by decide +kernel, rfl, by decide +kernel, by decide +kernel⟩
abbrev s__law_whole : Stmt := topS 28
theorem sc__law_whole : FnScope ["_law_found"] ["_law_found"] (defScope s__law_whole) := ⟨rfl, rfl, rfl, by decide +kernel, rfl, by decide +kernel, by decide +kernel⟩
abbrev s__law_part : Stmt := topS 29
theorem sc__law_part : FnScope ["_law_one", "_law_other"] ["_law_one", "_law_other"] (defScope s__law_part) := ⟨rfl, rfl, rfl, by decide +kernel, rfl, by decide +kernel, by decide +kernel⟩
abbrev s__law_share : Stmt := topS 30
theorem sc__law_share : FnScope ["_law_top", "_law_bottom", "_law_part_here"] ["_law_top", "_law_bottom"] (defScope s__law_share) := ⟨rfl, rfl, rfl, by decide +kernel, rfl, by decide +kernel, by decide +kernel⟩
abbrev s__law_is_share : Stmt := topS 31
theorem sc__law_is_share : FnScope ["_law_found"] ["_law_found"] (defScope s__law_is_share) := ⟨rfl, rfl, rfl, by decide +kernel, rfl, by decide +kernel, by decide +kernel⟩
abbrev s__law_drawn_two : Stmt := topS 32
theorem sc__law_drawn_two : FnScope ["_law_script", "_law_most", "_law_head", "_law_s", "_law_scale", "_law_far", "_law_bottom", "_law_both", "_law_k", "_law_seats", "_law_j", "_law_cell", "_law_r", "_law_x", "_law_y"] ["_law_script", "_law_most"] (defScope s__law_drawn_two) := ⟨rfl, rfl, rfl, by decide +kernel, rfl, by decide +kernel, by decide +kernel⟩
abbrev s__law_is_line : Stmt := topS 33
theorem sc__law_is_line : FnScope ["_law_told", "_law_some", "_law_others", "_law_k", "_law_a", "_law_b", "_law_c", "_law_sign", "_law_places", "_law_x", "_law_y", "_law_low", "_law_left"] ["_law_told", "_law_some", "_law_others"] (defScope s__law_is_line) := ⟨rfl, rfl, rfl, by decide +kernel, rfl, by decide +kernel, by decide +kernel⟩
abbrev s__law_mean : Stmt := topS 34
theorem sc__law_mean : FnScope ["_law_parts", "_law_places", "_law_found", "_law_axis", "_law_top", "_law_bottom", "_law_part_here", "_law_place", "_law_one", "_law_low"] ["_law_parts", "_law_places"] (defScope s__law_mean) := ⟨rfl, rfl, rfl, by decide +kernel, rfl, by decide +kernel, by decide +kernel⟩
abbrev s__law_kind : Stmt := topS 35
theorem sc__law_kind : FnScope ["_law_told", "_law_some", "_law_others", "_law_one"] ["_law_told", "_law_some", "_law_others"] (defScope s__law_kind) := ⟨rfl, rfl, rfl, by decide +kernel, rfl, by decide +kernel, by decide +kernel⟩
abbrev s_law : Stmt := topS 36
theorem sc_law : FnScope ["_law_script", "_law_some", "_law_others", "_law_handed", "_law_told", "_law_kind_here"] ["_law_script"] (defScope s_law) := ⟨rfl, rfl, rfl, by decide +kernel, rfl, by decide +kernel, by decide +kernel⟩
/-- what the top leaves -/
structure Txt (K : Frag) (mg : Str → Option Value) where
  d_common_part : DefF K mg "common_part" s_common_part ["one", "other"]
  d_share : DefF K mg "share" s_share ["top", "bottom"]
  d_plus : DefF K mg "plus" s_plus ["one", "other"]
  d_whole_points : DefF K mg "whole_points" s_whole_points ["points"]
  d_goes_left : DefF K mg "goes_left" s_goes_left ["one", "other", "third"]
  d_chain : DefF K mg "chain" s_chain ["some"]
  d_hull_of_whole : DefF K mg "hull_of_whole" s_hull_of_whole ["some"]
  d_turn_of : DefF K mg "turn_of" s_turn_of ["one", "other"]
  d_along : DefF K mg "along" s_along ["one", "other"]
  d_steps_between : DefF K mg "steps_between" s_steps_between ["some", "others"]
  d_ahead_of : DefF K mg "ahead_of" s_ahead_of ["one"]
  d_ahead_of_two : DefF K mg "ahead_of_two" s_ahead_of_two ["one", "other"]
  d_ahead_of_all : DefF K mg "ahead_of_all" s_ahead_of_all ["corners"]
  d_parts_of_two : DefF K mg "parts_of_two" s_parts_of_two ["one", "other"]
  d_parts_of : DefF K mg "parts_of" s_parts_of ["corners"]
  d_line_by : DefF K mg "line_by" s_line_by ["way", "some", "others", "bottom"]
  d_common_by : DefF K mg "common_by" s_common_by ["parts", "steps", "many", "more"]
  d_parting : DefF K mg "parting" s_parting ["one", "other"]
  d__law_cell_at : DefF K mg "_law_cell_at" s__law_cell_at ["_law_script", "_law_k"]
  d__law_stream : DefF K mg "_law_stream" s__law_stream ["_law_cell", "_law_place"]
  d__law_whole : DefF K mg "_law_whole" s__law_whole ["_law_found"]
  d__law_part : DefF K mg "_law_part" s__law_part ["_law_one", "_law_other"]
  d__law_share : DefF K mg "_law_share" s__law_share ["_law_top", "_law_bottom"]
  d__law_is_share : DefF K mg "_law_is_share" s__law_is_share ["_law_found"]
  d__law_drawn_two : DefF K mg "_law_drawn_two" s__law_drawn_two ["_law_script", "_law_most"]
  d__law_is_line : DefF K mg "_law_is_line" s__law_is_line ["_law_told", "_law_some", "_law_others"]
  d__law_mean : DefF K mg "_law_mean" s__law_mean ["_law_parts", "_law_places"]
  d__law_kind : DefF K mg "_law_kind" s__law_kind ["_law_told", "_law_some", "_law_others"]
  d_law : LawF K mg s_law "_law_script"
  C_SeatError : Addr
  e_SeatError : ExcF K mg "SeatError" C_SeatError
  C_NoShare : Addr
  e_NoShare : ExcF K mg "NoShare" C_NoShare
  m_abs : mg "abs" = none
  m_bool : mg "bool" = none
  m_divmod : mg "divmod" = none
  m_enumerate : mg "enumerate" = none
  m_int : mg "int" = none
  m_isinstance : mg "isinstance" = none
  m_len : mg "len" = none
  m_list : mg "list" = none
  m_max : mg "max" = none
  m_min : mg "min" = none
  m_range : mg "range" = none
  m_set : mg "set" = none
  m_sorted : mg "sorted" = none
  m_sum : mg "sum" = none
  m_tuple : mg "tuple" = none
  m_zip : mg "zip" = none
  c_NOUGHT : Addr
  g_NOUGHT : mg "NOUGHT" = some (.ref c_NOUGHT)
  r_NOUGHT : ∀ H, Rp K H (.ref c_NOUGHT) (.tup [.int 0, .int 1])
end Lw
namespace Lw
open PySem PySem.Spec PyProof.Rows L2 C7
local macro_rules | `(tactic| walk_at "bt") => `(tactic| first
  | with_reducible assumption
  | exact Sz.num (by with_reducible assumption)
  | exact Sz.den (by with_reducible assumption)
  | (refine' bt_mul ?b1 ?b2; (case b1 => walk_at "bt"); (case b2 => walk_at "bt"))
  | (refine' bt_add ?b1 ?b2; (case b1 => walk_at "bt"); (case b2 => walk_at "bt"))
  | (refine' bt_sub ?b1 ?b2; (case b1 => walk_at "bt"); (case b2 => walk_at "bt"))
  | (refine' bt_neg ?b1; (case b1 => walk_at "bt"))
  | exact (by decide : (_ : Nat) < 2 ^ 64)
  | exact bt_small 64 (by omega) (by omega))
local macro_rules | `(tactic| walk_at "sz") => `(tactic| first
  | decide
  | omega
  | (refine' cpow ?b1 ?b2 ?b3; (case b1 => decide); (case b2 => decide); (case b3 => decide))
  | (refine' divw ?b0 ?b1 ?b2 ?b3; (case b0 => first | decide | omega); (case b1 => walk_at "bt"); (case b2 => decide); (case b3 => decide))
  | (refine' mulx ?b1 ?b2 ?b3; (case b1 => walk_at "bt"); (case b2 => walk_at "bt"); (case b3 => first | decide | omega)))
local macro_rules | `(tactic| walk_at "szr") => `(tactic| first
  | with_reducible assumption
  | with_reducible exact sz_zero
  | with_reducible exact SzP.l (by with_reducible assumption)
  | with_reducible exact SzP.r (by with_reducible assumption)
  | with_reducible exact sel_sz (by with_reducible assumption)
  | with_reducible exact sz_one
  | (with_reducible refine' sz_one_sub ?b1; (case b1 => walk_at "szr"))
  | (with_reducible refine' sz_mul ?b1 ?b2; (case b1 => walk_at "szr"); (case b2 => walk_at "szr"))
  | (with_reducible refine' sz_add ?b1 ?b2; (case b1 => walk_at "szr"); (case b2 => walk_at "szr"))
  | (with_reducible refine' sz_sub ?b1 ?b2; (case b1 => walk_at "szr"); (case b2 => walk_at "szr")))
local macro_rules | `(tactic| walk_at "il") => `(tactic| first
  | with_reducible assumption
  | with_reducible exact IsL.cl
  | with_reducible exact IsL.of aupd_same
  | (with_reducible refine' IsL.ext ?b1 (Ext.new ?b2); (case b2 => with_reducible assumption); (case b1 => walk_at "il"))
  | (with_reducible refine' IsL.ext ?b1 ?b2; (case b2 => with_reducible assumption); (case b1 => walk_at "il")))
local macro_rules | `(tactic| walk_at "ilx") => `(tactic| (refine' IsL.ext ?b1 ?b2; (case b2 => with_reducible assumption); (case b1 => walk_at "il")))
local macro_rules | `(tactic| walk_at "len") => `(tactic| first | decide | exact Nat.le_of_ble_eq_true rfl | omega)
local macro_rules | `(tactic| walk_at "ib") => `(tactic| first | rfl | (exact atN _ (by omega)) | (exact atZ (by omega) (by omega)))
local macro_rules | `(tactic| walk_at "fz") => `(tactic| first
  | with_reducible assumption
  | (with_reducible refine' fz_S ?b1; (case b1 => walk_at "szr"))
  | (with_reducible refine' fz_mul ?b1 ?b2; (case b1 => walk_at "fz"); (case b2 => walk_at "fz"))
  | (with_reducible refine' fz_add ?b1 ?b2 ?b3; (case b1 => walk_at "fz"); (case b2 => walk_at "fz"); (case b3 => decide)))
local macro_rules | `(tactic| walk_at "p30") => `(tactic| first | exact (by decide : (0 : Int) < 10 ^ (30 : Int).toNat) | exact divw (by decide : (0 : Int) < 10 ^ (30 : Int).toNat) (by decide : ((10 : Int) ^ (30 : Int).toNat).natAbs < 2 ^ 100) (by decide) (by decide))
local macro_rules | `(tactic| walk_at "om") => `(tactic| first | omega | decide | (simp only [List.length_map, List.length_range, List.length_append, List.length_cons, List.length_nil, List.length_reverse, List.length_replicate] at *; omega) | (simp; omega))
local macro_rules | `(tactic| walk_at "om4") => `(tactic| (refine ⟨?_, ?_, ?_, ?_⟩ <;> walk_at "om"))
local macro_rules | `(tactic| walk_at "lt") => `(tactic| first | (rw [List.length_map]; exact small1000 (by omega)) | exact small1000 (by walk_at "om"))
local macro_rules | `(tactic| walk_at "len") => `(tactic| first | decide | exact Nat.le_of_ble_eq_true rfl | omega | exact Nat.le_of_lt (small1000 (by walk_at "om")))
local macro_rules | `(tactic| walk_at "im") => `(tactic| first | with_reducible assumption | exact IsM.fz _ | exact IsM.ref aupd_same)
local macro_rules | `(tactic| walk_at "fact") => `(tactic| first | rfl | (simp; done) | (simp; omega))
section
variable {P : Program} {w : World} {K : Frag} {mg : Str → Option Value} {base : Heap}
abbrev Ip := Int × Int
abbrev ip (z : Ip) : D := .tup [.int z.1, .int z.2]
def itC (v : Int) : Nat → Int
  | 0 => v
  | k + 1 => itC v k * 48271 % 2147483647
def stC (c : Int) (k : Nat) : Int := itC (1 + c % 2147483646) (k + 3)
theorem itC_bd (v : Int) (k : Nat) : 0 ≤ itC v (k + 1) ∧ itC v (k + 1) < 2147483647 := by
  show 0 ≤ itC v k * 48271 % 2147483647 ∧ itC v k * 48271 % 2147483647 < 2147483647
  omega
theorem stC_bd (c : Int) (k : Nat) : 0 ≤ stC c k ∧ stC c k < 2147483647 := itC_bd _ _
abbrev Wy := Int × Int × Ip × Ip
def wayC (c : Int) : Wy := (([1, 1, 2, 3, 6, 12, 8, 10 ^ (9 : Int).toNat + 7] : List Int).getD (stC c 0 % 8).toNat 0, stC c 3 % 6, (stC c 1 % 41 - 20, stC c 2 % 41 - 20), (stC c 4 % 7 - 3, stC c 5 % 7 - 3))
structure WyOk (W : Wy) : Prop where
  b0 : 0 < W.1
  b1 : W.1 ≤ 1000000007
  s1 : -20 ≤ W.2.2.1.1 ∧ W.2.2.1.1 ≤ 20
  s2 : -20 ≤ W.2.2.1.2 ∧ W.2.2.1.2 ≤ 20
  t1 : -3 ≤ W.2.2.2.1 ∧ W.2.2.2.1 ≤ 3
  t2 : -3 ≤ W.2.2.2.2 ∧ W.2.2.2.2 ≤ 3
theorem wayC_ok (c : Int) : WyOk (wayC c) := by
  have h0 : 0 ≤ stC c 0 % 8 ∧ stC c 0 % 8 < 8 := by omega
  have hb : 0 < (wayC c).1 ∧ (wayC c).1 ≤ 1000000007 := by
    show 0 < ([1, 1, 2, 3, 6, 12, 8, 10 ^ (9 : Int).toNat + 7] : List Int).getD (stC c 0 % 8).toNat 0 ∧ ([1, 1, 2, 3, 6, 12, 8, 10 ^ (9 : Int).toNat + 7] : List Int).getD (stC c 0 % 8).toNat 0 ≤ 1000000007
    have hk : (stC c 0 % 8).toNat < 8 := by omega
    generalize (stC c 0 % 8).toNat = k at hk
    match k, hk with
    | 0, _ | 1, _ | 2, _ | 3, _ | 4, _ | 5, _ | 6, _ | 7, _ => decide
  refine ⟨hb.1, hb.2, ?_, ?_, ?_, ?_⟩
  · show -20 ≤ stC c 1 % 41 - 20 ∧ stC c 1 % 41 - 20 ≤ 20; omega
  · show -20 ≤ stC c 2 % 41 - 20 ∧ stC c 2 % 41 - 20 ≤ 20; omega
  · show -3 ≤ stC c 4 % 7 - 3 ∧ stC c 4 % 7 - 3 ≤ 3; omega
  · show -3 ≤ stC c 5 % 7 - 3 ∧ stC c 5 % 7 - 3 ≤ 3; omega
def placeC (W : Wy) (c : Int) : Ip :=
  if W.2.1 = 1 then (c % 10 ^ (30 : Int).toNat - 5 * 10 ^ (29 : Int).toNat, c * stC c 0 % 10 ^ (30 : Int).toNat - 5 * 10 ^ (29 : Int).toNat)
  else if W.2.1 = 2 then (W.2.2.1.1 + W.2.2.2.1 * (stC c 0 % 9), W.2.2.1.2 + W.2.2.2.2 * (stC c 0 % 9))
  else if W.2.1 = 3 then (W.2.2.1.1 + stC c 0 % 2 * W.2.2.2.1, W.2.2.1.2)
  else if W.2.1 = 4 then (W.2.2.1.1 * 10 ^ (25 : Int).toNat + stC c 0 % 3, W.2.2.1.2 * 10 ^ (25 : Int).toNat + stC c 1 % 3)
  else if c > 1680 then (c % 41 - 20, c / 41 % 41 - 20)
  else (stC c 0 % 7 - 3, stC c 1 % 7 - 3)
theorem placeC_bd {W : Wy} (h : WyOk W) (c : Int) : (placeC W c).1.natAbs < 2 ^ 101 ∧ (placeC W c).2.natAbs < 2 ^ 101 := by
  have w1 := h.s1
  have w2 := h.s2
  have w3 := h.t1
  have w4 := h.t2
  have h0 := stC_bd c 0
  have h1 := stC_bd c 1
  have e30 : (10 : Int) ^ (30 : Int).toNat = 1000000000000000000000000000000 := by decide
  have e29 : (10 : Int) ^ (29 : Int).toNat = 100000000000000000000000000000 := by decide
  have e25 : (10 : Int) ^ (25 : Int).toNat = 10000000000000000000000000 := by decide
  have e101 : (2 : Nat) ^ 101 = 2535301200456458802993406410752 := by decide
  rw [e101]
  unfold placeC
  rw [e30, e29, e25]
  have sm : ∀ a b : Int, -3 ≤ a ∧ a ≤ 3 → 0 ≤ b ∧ b ≤ 9 → -27 ≤ a * b ∧ a * b ≤ 27 := by
    intro a b ha hb
    have : b = 0 ∨ b = 1 ∨ b = 2 ∨ b = 3 ∨ b = 4 ∨ b = 5 ∨ b = 6 ∨ b = 7 ∨ b = 8 ∨ b = 9 := by omega
    rcases this with r | r | r | r | r | r | r | r | r | r <;> subst r <;> omega
  have m1 := sm _ (stC c 0 % 9) w3 (by omega)
  have m2 := sm _ (stC c 0 % 9) w4 (by omega)
  have m3 := sm _ (stC c 0 % 2) w3 (by omega)
  split
  · dsimp only; omega
  split
  · dsimp only; omega
  split
  · dsimp only; rw [Int.mul_comm (stC c 0 % 2)]; omega
  split
  · dsimp only; omega
  split
  · dsimp only; omega
  · dsimp only; omega
def eTL {α : Type} [DecidableEq α] (e : Enc α) (he : ∀ x, (e.p x).depth ≤ 10) : Enc (List α) where
  d := fun xs => .tup (xs.map e.d)
  p := fun xs => .tuple (xs.map e.p)
  py := fun A xs => .tup (pysAll e A xs)
  lay := fun xs => layAll e xs
  dep := fun xs => (eL e he).dep xs
  eqv := fun x y => eqvAll e x y
def minI : List Int → Int
  | [] => 0
  | [x] => x
  | x :: y :: r => if minI (y :: r) < x then minI (y :: r) else x
def maxI : List Int → Int
  | [] => 0
  | [x] => x
  | x :: y :: r => if x < maxI (y :: r) then maxI (y :: r) else x
theorem minI_ok : ∀ ns : List Int, 0 < ns.length → minI ns ∈ ns ∧ ∀ y ∈ ns, minI ns ≤ y
  | [], h => absurd h (by decide)
  | [x], _ => ⟨List.mem_singleton.mpr rfl, fun y hy => by rw [List.mem_singleton.mp hy]; exact Int.le_refl _⟩
  | x :: y :: r, _ => by
    obtain ⟨h1, h2⟩ := minI_ok (y :: r) (Nat.zero_lt_succ _)
    show (if minI (y :: r) < x then minI (y :: r) else x) ∈ _ ∧ ∀ z ∈ _, (if minI (y :: r) < x then minI (y :: r) else x) ≤ z
    split
    · exact ⟨List.mem_cons_of_mem _ h1, fun z hz => (List.mem_cons.mp hz).elim (fun e => by omega) (fun e => h2 z e)⟩
    · exact ⟨List.mem_cons_self, fun z hz => (List.mem_cons.mp hz).elim (fun e => by omega) (fun e => by have := h2 z e; omega)⟩
theorem maxI_ok : ∀ ns : List Int, 0 < ns.length → maxI ns ∈ ns ∧ ∀ y ∈ ns, y ≤ maxI ns
  | [], h => absurd h (by decide)
  | [x], _ => ⟨List.mem_singleton.mpr rfl, fun y hy => by rw [List.mem_singleton.mp hy]; exact Int.le_refl _⟩
  | x :: y :: r, _ => by
    obtain ⟨h1, h2⟩ := maxI_ok (y :: r) (Nat.zero_lt_succ _)
    show (if x < maxI (y :: r) then maxI (y :: r) else x) ∈ _ ∧ ∀ z ∈ _, z ≤ (if x < maxI (y :: r) then maxI (y :: r) else x)
    split
    · exact ⟨List.mem_cons_of_mem _ h1, fun z hz => (List.mem_cons.mp hz).elim (fun e => by omega) (fun e => h2 z e)⟩
    · exact ⟨List.mem_cons_self, fun z hz => (List.mem_cons.mp hz).elim (fun e => by omega) (fun e => by have := h2 z e; omega)⟩
theorem av_minL {X : Cx} {ρ : Ro} {A : AH} {a : Expr} {pos p0 : Pos} {ns : List Int} (hc : X.calm = true) (hg : Gl X "min") (hm : X.mg "min" = none) (h : AV X a ρ A (.fz (ns.map D.int))) (h0 : 0 < ns.length) (hs : starEach [a] X.env = [(false, eval a X.env)] := by rfl) : AV X (.Call (.Name "min" p0) [a] [] pos) ρ A (.int (minI ns)) :=
  AE.av (ae_callB (cr_min hc) hg hm (by decide +kernel) (aes_cons (h.ae (aes_nil (fun vs H r l Q q => by
    obtain ⟨v, rfl, r1⟩ := rps1 r
    obtain ⟨p, ws, rfl, h1, h2⟩ := IsL.sq IsL.fz r1 l
    refine ⟨p, ns, rfl, by rw [← h2.ints]; exact h1, h0, fun m hm hmin => ?_⟩
    obtain ⟨g1, g2⟩ := minI_ok ns h0
    have e : m = minI ns := Int.le_antisymm (hmin _ g1) (g2 _ hm)
    rw [e]
    exact q _ H _ A (TS.refl H) (.int _) l ⟨rfl, Ext.refl _⟩))) hs) (he := hs) (hpl := rfl))
theorem av_maxL {X : Cx} {ρ : Ro} {A : AH} {a : Expr} {pos p0 : Pos} {ns : List Int} (hc : X.calm = true) (hg : Gl X "max") (hm : X.mg "max" = none) (h : AV X a ρ A (.fz (ns.map D.int))) (h0 : 0 < ns.length) (hs : starEach [a] X.env = [(false, eval a X.env)] := by rfl) : AV X (.Call (.Name "max" p0) [a] [] pos) ρ A (.int (maxI ns)) :=
  AE.av (ae_callB (cr_max hc) hg hm (by decide +kernel) (aes_cons (h.ae (aes_nil (fun vs H r l Q q => by
    obtain ⟨v, rfl, r1⟩ := rps1 r
    obtain ⟨p, ws, rfl, h1, h2⟩ := IsL.sq IsL.fz r1 l
    refine ⟨p, ns, rfl, by rw [← h2.ints]; exact h1, h0, fun m hm hmin => ?_⟩
    obtain ⟨g1, g2⟩ := maxI_ok ns h0
    have e : m = maxI ns := Int.le_antisymm (g2 _ hm) (hmin _ g1)
    rw [e]
    exact q _ H _ A (TS.refl H) (.int _) l ⟨rfl, Ext.refl _⟩))) hs) (he := hs) (hpl := rfl))
def ptC (b : Int) (z : Ip) : Pt := ((z.1 : Rat) / (b : Rat), (z.2 : Rat) / (b : Rat))
/-- the least, the greatest, as the program looks for them -/
def lo2 (f x : Rat) : Rat := if x < f then x else f
def hi2 (f x : Rat) : Rat := if f < x then x else f
def leastR (xs : List Rat) : Rat := xs.foldl lo2 (xs.getD 0 0)
def greatR (xs : List Rat) : Rat := xs.foldl hi2 (xs.getD 0 0)
theorem div_lt {a c b : Int} (hb : 0 < b) : ((a : Rat) / (b : Rat) < (c : Rat) / (b : Rat)) ↔ a < c := by
  have h0 : (0 : Rat) < (b : Rat) := by exact_mod_cast hb
  have h1 : (b : Rat) ≠ 0 := fun e => (show b ≠ 0 by omega) (by exact_mod_cast e)
  constructor
  · intro h
    have h2 := Rat.mul_lt_mul_of_pos_right h h0
    rw [Rat.div_mul_cancel h1, Rat.div_mul_cancel h1] at h2
    exact_mod_cast h2
  · intro h
    have h2 : (a : Rat) < (c : Rat) := by exact_mod_cast h
    refine Classical.byContradiction fun hn => ?_
    have hn := Rat.not_lt.mp hn
    have h3 := Rat.mul_le_mul_of_nonneg_right hn (Rat.le_of_lt h0)
    rw [Rat.div_mul_cancel h1, Rat.div_mul_cancel h1] at h3
    exact absurd h2 (Rat.not_lt.mpr h3)
theorem lo_fold {b : Int} (hb : 0 < b) : ∀ (ns : List Int) (f : Int), ∃ m : Int, (ns.map fun n : Int => (n : Rat) / (b : Rat)).foldl lo2 ((f : Rat) / (b : Rat)) = (m : Rat) / (b : Rat) ∧ (m = f ∨ m ∈ ns) ∧ m ≤ f ∧ ∀ y ∈ ns, m ≤ y
  | [], f => ⟨f, rfl, .inl rfl, Int.le_refl _, fun y hy => nomatch hy⟩
  | x :: r, f => by
    rw [List.map_cons, List.foldl_cons]
    have e : lo2 ((f : Rat) / (b : Rat)) ((x : Rat) / (b : Rat)) = (((if x < f then x else f : Int)) : Rat) / (b : Rat) := by
      unfold lo2
      by_cases h : x < f
      · rw [if_pos ((div_lt hb).mpr h), if_pos h]
      · rw [if_neg (fun z => h ((div_lt hb).mp z)), if_neg h]
    rw [e]
    obtain ⟨m, h1, h2, h3, h4⟩ := lo_fold hb r (if x < f then x else f)
    refine ⟨m, h1, ?_, by split at h3 <;> omega, fun y hy => ?_⟩
    · rcases h2 with h2 | h2
      · split at h2
        · exact .inr (by rw [h2]; exact List.mem_cons_self)
        · exact .inl h2
      · exact .inr (List.mem_cons_of_mem _ h2)
    · rcases List.mem_cons.mp hy with e | e
      · split at h3 <;> omega
      · exact h4 y e
theorem hi_fold {b : Int} (hb : 0 < b) : ∀ (ns : List Int) (f : Int), ∃ m : Int, (ns.map fun n : Int => (n : Rat) / (b : Rat)).foldl hi2 ((f : Rat) / (b : Rat)) = (m : Rat) / (b : Rat) ∧ (m = f ∨ m ∈ ns) ∧ f ≤ m ∧ ∀ y ∈ ns, y ≤ m
  | [], f => ⟨f, rfl, .inl rfl, Int.le_refl _, fun y hy => nomatch hy⟩
  | x :: r, f => by
    rw [List.map_cons, List.foldl_cons]
    have e : hi2 ((f : Rat) / (b : Rat)) ((x : Rat) / (b : Rat)) = (((if f < x then x else f : Int)) : Rat) / (b : Rat) := by
      unfold hi2
      by_cases h : f < x
      · rw [if_pos ((div_lt hb).mpr h), if_pos h]
      · rw [if_neg (fun z => h ((div_lt hb).mp z)), if_neg h]
    rw [e]
    obtain ⟨m, h1, h2, h3, h4⟩ := hi_fold hb r (if f < x then x else f)
    refine ⟨m, h1, ?_, by split at h3 <;> omega, fun y hy => ?_⟩
    · rcases h2 with h2 | h2
      · split at h2
        · exact .inr (by rw [h2]; exact List.mem_cons_self)
        · exact .inl h2
      · exact .inr (List.mem_cons_of_mem _ h2)
    · rcases List.mem_cons.mp hy with e | e
      · split at h3 <;> omega
      · exact h4 y e
theorem least_min {b : Int} (hb : 0 < b) {ns ms : List Int} (h0 : 0 < ns.length) (hp : ∀ x, x ∈ ns ↔ x ∈ ms) : leastR (ns.map fun n : Int => (n : Rat) / (b : Rat)) = (minI ms : Rat) / (b : Rat) := by
  obtain ⟨x, r, rfl⟩ : ∃ x r, ns = x :: r := by cases ns with | nil => exact absurd h0 (by decide) | cons x r => exact ⟨x, r, rfl⟩
  have hm0 : 0 < ms.length := List.length_pos_of_mem ((hp x).mp List.mem_cons_self)
  obtain ⟨m, h1, h2, h3, h4⟩ := lo_fold hb (x :: r) x
  obtain ⟨g1, g2⟩ := minI_ok ms hm0
  have hm : m ∈ x :: r := h2.elim (fun e => by rw [e]; exact List.mem_cons_self) id
  have e : m = minI ms := Int.le_antisymm (h4 _ ((hp _).mpr g1)) (g2 _ ((hp _).mp hm))
  unfold leastR
  rw [← e, ← h1]
  rfl
theorem great_max {b : Int} (hb : 0 < b) {ns ms : List Int} (h0 : 0 < ns.length) (hp : ∀ x, x ∈ ns ↔ x ∈ ms) : greatR (ns.map fun n : Int => (n : Rat) / (b : Rat)) = (maxI ms : Rat) / (b : Rat) := by
  obtain ⟨x, r, rfl⟩ : ∃ x r, ns = x :: r := by cases ns with | nil => exact absurd h0 (by decide) | cons x r => exact ⟨x, r, rfl⟩
  have hm0 : 0 < ms.length := List.length_pos_of_mem ((hp x).mp List.mem_cons_self)
  obtain ⟨m, h1, h2, h3, h4⟩ := hi_fold hb (x :: r) x
  obtain ⟨g1, g2⟩ := maxI_ok ms hm0
  have hm : m ∈ x :: r := h2.elim (fun e => by rw [e]; exact List.mem_cons_self) id
  have e : m = maxI ms := Int.le_antisymm (g2 _ ((hp _).mp hm)) (h4 _ ((hp _).mpr g1))
  unfold greatR
  rw [← e, ← h1]
  rfl
def gi (zs : List Ip) (k : Nat) : Ip := zs.getD k (0, 0)
def stepI (p q : Ip) : Ip := (q.1 - p.1, q.2 - p.2)
def lessI (zs : List Ip) : List Ip := (List.range (zs.length - 1)).map fun k => stepI (gi zs k) (gi zs (k + 1))
theorem lessI_len (zs : List Ip) : (lessI zs).length = zs.length - 1 := by unfold lessI; simp
/-- what `_law_common` makes of a bottom b and one more bottom d -/
theorem common_step {b d D : Int} (hb : 0 < b) (hd : 0 < d) (hD : 0 < D) (h1 : b ∣ D) (h2 : d ∣ D) : 0 < b * ((d : Rat) / (b : Rat)).num ∧ b ∣ b * ((d : Rat) / (b : Rat)).num ∧ d ∣ b * ((d : Rat) / (b : Rat)).num ∧ b * ((d : Rat) / (b : Rat)).num ∣ D := by
  obtain ⟨q, hq⟩ : ∃ q : Rat, q = (d : Rat) / (b : Rat) := ⟨_, rfl⟩
  rw [← hq]
  have hb' : (b : Rat) ≠ 0 := fun e => (show b ≠ 0 by omega) (by exact_mod_cast e)
  have hq2 := rat_eq q
  have hqd := den_ne q
  have hqp := den_pos q
  have e1 : q.num * b = d * (q.den : Int) := by
    have : (q.num : Rat) * (b : Rat) = (d : Rat) * (q.den : Rat) := by
      have h3 : q * (b : Rat) = (d : Rat) := by rw [hq]; exact Rat.div_mul_cancel hb'
      have h4 : q * (q.den : Rat) = (q.num : Rat) := by rw [hq2]; grind
      grind
    have c : ((q.num * b : Int) : Rat) = ((d * (q.den : Int) : Int) : Rat) := by push_cast; exact this
    exact_mod_cast c
  have hnp : 0 < q.num := by
    refine Classical.byContradiction fun hn => ?_
    have h5 : q.num * b ≤ 0 := Int.mul_nonpos_of_nonpos_of_nonneg (by omega) (by omega)
    have h6 : 0 < d * (q.den : Int) := Int.mul_pos hd (by omega)
    omega
  refine ⟨Int.mul_pos hb hnp, ⟨_, rfl⟩, ⟨(q.den : Int), by rw [Int.mul_comm b]; exact e1⟩, ?_⟩
  obtain ⟨s, hs⟩ := h1
  obtain ⟨t, ht⟩ := h2
  rw [hs]
  refine Int.mul_dvd_mul_left b ?_
  have e2 : s * (q.den : Int) = t * q.num := by
    have h7 : b * d * (s * (q.den : Int)) = b * d * (t * q.num) := by
      have a1 : b * d * (s * (q.den : Int)) = (b * s) * (d * (q.den : Int)) := by grind
      have a2 : b * d * (t * q.num) = (d * t) * (q.num * b) := by grind
      rw [a1, a2, ← hs, ← ht, e1]
    exact Int.eq_of_mul_eq_mul_left (Int.ne_of_gt (Int.mul_pos hb hd)) h7
  have hc : Nat.Coprime q.num.natAbs q.den := q.reduced
  have h8 : q.num.natAbs ∣ s.natAbs * q.den := ⟨t.natAbs, by
    have := congrArg Int.natAbs e2
    rw [Int.natAbs_mul, Int.natAbs_mul, Int.natAbs_natCast] at this
    rw [this, Nat.mul_comm]⟩
  exact Int.natAbs_dvd_natAbs.mp (hc.dvd_of_dvd_mul_right h8)
def wholeC (b : Int) (p : Pt) : Ip := (p.1.num * (b / (p.1.den : Int)), p.2.num * (b / (p.2.den : Int)))
def dvP (b : Int) (p : Pt) : Prop := (p.1.den : Int) ∣ b ∧ (p.2.den : Int) ∣ b
/-! ways that turn: whole numbers -/
def crI (a b z : Ip) : Int := (b.1 - a.1) * (z.2 - a.2) - (b.2 - a.2) * (z.1 - a.1)
/-- a chain, the last place ahead -/
def popC : List Ip → Ip → List Ip
  | b :: a :: r, z => if 0 < crI a b z then b :: a :: r else popC (a :: r) z
  | s, _ => s
def stkC (zs : List Ip) : List Ip := zs.foldl (fun st z => z :: popC st z) []
def chainL (zs : List Ip) : List Ip := (stkC zs).reverse
theorem popC_len : ∀ (s : List Ip) (z : Ip), (popC s z).length ≤ s.length
  | [], _ => Nat.le_refl _
  | [_], _ => Nat.le_refl _
  | b :: a :: r, z => by
    unfold popC
    split
    · exact Nat.le_refl _
    · have := popC_len (a :: r) z
      exact Nat.le_succ_of_le this
theorem popC_mem {y : Ip} : ∀ (s : List Ip) (z : Ip), y ∈ popC s z → y ∈ s
  | [], _, h => h
  | [_], _, h => h
  | b :: a :: r, z, h => by
    unfold popC at h
    split at h
    · exact h
    · exact List.mem_cons_of_mem _ (popC_mem (a :: r) z h)
theorem stkC_snoc (zs : List Ip) (z : Ip) : stkC (zs ++ [z]) = z :: popC (stkC zs) z := by unfold stkC; rw [List.foldl_append]; rfl
theorem stkC_mem {y : Ip} (zs : List Ip) : y ∈ stkC zs → y ∈ zs := by
  suffices h : ∀ (ys : List Ip) (st : List Ip), (∀ u ∈ st, u ∈ zs) → (∀ u ∈ ys, u ∈ zs) → ∀ u ∈ ys.foldl (fun st z => z :: popC st z) st, u ∈ zs from h zs [] (fun _ h => nomatch h) (fun _ h => h) y
  intro ys
  induction ys with
  | nil => intro st h _ u hu; exact h u hu
  | cons a r ih =>
    intro st h1 h2 u hu
    refine ih (a :: popC st a) (fun v hv => ?_) (fun v hv => h2 v (List.mem_cons_of_mem _ hv)) u hu
    rcases List.mem_cons.mp hv with e | e
    · rw [e]; exact h2 a List.mem_cons_self
    · exact h1 v (popC_mem _ _ e)
theorem stkC_len (zs : List Ip) : (stkC zs).length ≤ zs.length := by
  suffices h : ∀ (ys : List Ip) (st : List Ip), (ys.foldl (fun st z => z :: popC st z) st).length ≤ st.length + ys.length by have h0 := h zs []; rw [List.length_nil, Nat.zero_add] at h0; exact h0
  intro ys
  induction ys with
  | nil => intro st; exact Nat.le_refl _
  | cons a r ih =>
    intro st
    have h1 := ih (a :: popC st a)
    have h2 := popC_len st a
    show (r.foldl (fun st z => z :: popC st z) (a :: popC st a)).length ≤ st.length + (r.length + 1)
    have h3 : (a :: popC st a).length = (popC st a).length + 1 := rfl
    omega
theorem rev_get0 {st : List Ip} (h : 0 < st.length) : st.reverse.getD (st.length - 1) (0, 0) = gi st 0 := by
  unfold gi
  rw [List.getD_eq_getElem?_getD, List.getD_eq_getElem?_getD, List.getElem?_reverse (by omega), show st.length - 1 - (st.length - 1) = 0 by omega]
theorem rev_get1 {st : List Ip} (h : 1 < st.length) : st.reverse.getD (st.length - 2) (0, 0) = gi st 1 := by
  unfold gi
  rw [List.getD_eq_getElem?_getD, List.getD_eq_getElem?_getD, List.getElem?_reverse (by omega), show st.length - 1 - (st.length - 2) = 1 by omega]
theorem popC_step {st : List Ip} {z : Ip} (h : 1 < st.length) : popC st z = if 0 < crI (gi st 1) (gi st 0) z then st else popC (st.drop 1) z := by
  match st, h with
  | b :: a :: r, _ => rfl
theorem popC_small {st : List Ip} {z : Ip} (h : ¬ 1 < st.length) : popC st z = st := by
  match st, h with
  | [], _ => rfl
  | [_], _ => rfl
  | b :: a :: r, h => exact absurd (show 1 < r.length + 2 by omega) h
def cornersI (zs : List Ip) : List Ip := if (srtP zs).length = 1 then srtP zs else (chainL (srtP zs)).dropLast ++ (chainL (srtP zs).reverse).dropLast
/-- the number ahead, round to the begin -/
def prv (n k : Nat) : Nat := if k = 0 then n - 1 else k - 1
def btwI (a b p : Int) : Bool := decide ((if b < a then b else a) ≤ p) && decide (p ≤ (if a < b then b else a))
def withI (cs : List Ip) (p : Ip) : Bool :=
  if cs.length = 1 then decide (p = gi cs 0)
  else if cs.length = 2 then (btwI (gi cs 0).1 (gi cs 1).1 p.1 && btwI (gi cs 0).2 (gi cs 1).2 p.2) && decide (crI (gi cs 0) (gi cs 1) p = 0)
  else (List.range cs.length).all fun k => decide (0 ≤ crI (gi cs (prv cs.length k)) (gi cs k) p)
def crR (a b z : Pt) : Rat := (b.1 - a.1) * (z.2 - a.2) - (b.2 - a.2) * (z.1 - a.1)
def btwR (a b p : Rat) : Bool := decide (¬ 0 < (p - a) * (p - b))
def withR (cs : List Pt) (p : Pt) : Bool :=
  if cs.length = 1 then decide (p = gp cs 0)
  else if cs.length = 2 then decide (crR (gp cs 0) (gp cs 1) p = 0) && (btwR (gp cs 0).1 (gp cs 1).1 p.1 && btwR (gp cs 0).2 (gp cs 1).2 p.2)
  else (List.range cs.length).all fun k => decide (¬ crR (gp cs (prv cs.length k)) (gp cs k) p < 0)
theorem ptC_gp {B : Int} (zs : List Ip) (k : Nat) : gp (zs.map (ptC B)) k = ptC B (gi zs k) := by
  unfold gp gi
  rw [List.getD_eq_getElem?_getD, List.getD_eq_getElem?_getD, List.getElem?_map]
  cases zs[k]? with
  | none =>
    show ((0, 0) : Pt) = (((0 : Int) : Rat) / (B : Rat), ((0 : Int) : Rat) / (B : Rat))
    have : ((0 : Int) : Rat) / (B : Rat) = 0 := by push_cast; grind
    rw [this]
  | some z => rfl
theorem crR_ptC {B : Int} (hB : B ≠ 0) (a b z : Ip) : crR (ptC B a) (ptC B b) (ptC B z) * ((B : Rat) * (B : Rat)) = (crI a b z : Rat) := by
  have hb : (B : Rat) ≠ 0 := fun e => hB (by exact_mod_cast e)
  unfold crR ptC crI
  push_cast
  grind
theorem sgn {x y : Rat} {n : Int} (hy : 0 < y) (h : x * y = (n : Rat)) : (x = 0 ↔ n = 0) ∧ (x < 0 ↔ n < 0) ∧ (0 < x ↔ 0 < n) := by
  have hy0 : y ≠ 0 := fun e => by rw [e] at hy; exact absurd hy (Rat.lt_irrefl)
  have e0 : x = 0 → n = 0 := fun e => by rw [e, Rat.zero_mul] at h; exact_mod_cast h.symm
  have e1 : x < 0 → n < 0 := fun e => by
    have := Rat.mul_lt_mul_of_pos_right e hy
    rw [h, Rat.zero_mul] at this
    exact_mod_cast this
  have e2 : 0 < x → 0 < n := fun e => by
    have := Rat.mul_lt_mul_of_pos_right e hy
    rw [h, Rat.zero_mul] at this
    exact_mod_cast this
  have tri : x < 0 ∨ x = 0 ∨ 0 < x := by
    rcases Rat.le_total (a := x) (b := 0) with g | g
    · by_cases e : x = 0
      · exact .inr (.inl e)
      · exact .inl (Rat.lt_of_le_of_ne g e)
    · by_cases e : x = 0
      · exact .inr (.inl e)
      · exact .inr (.inr (Rat.lt_of_le_of_ne g (Ne.symm e)))
  rcases tri with t | t | t
  · have n1 := e1 t
    exact ⟨⟨e0, fun e => absurd n1 (by omega)⟩, ⟨e1, fun _ => t⟩, ⟨e2, fun e => absurd n1 (by omega)⟩⟩
  · have n1 := e0 t
    exact ⟨⟨e0, fun _ => t⟩, ⟨e1, fun e => absurd n1 (by omega)⟩, ⟨e2, fun e => absurd n1 (by omega)⟩⟩
  · have n1 := e2 t
    exact ⟨⟨e0, fun e => absurd n1 (by omega)⟩, ⟨e1, fun e => absurd n1 (by omega)⟩, ⟨e2, fun _ => t⟩⟩
theorem sq_pos {B : Int} (hB : 0 < B) : (0 : Rat) < (B : Rat) * (B : Rat) := by
  have : (0 : Rat) < (B : Rat) := by exact_mod_cast hB
  exact Rat.mul_pos this this
theorem ptC_inj {B : Int} (hB : B ≠ 0) {a b : Ip} : ptC B a = ptC B b ↔ a = b := by
  have hb : (B : Rat) ≠ 0 := fun e => hB (by exact_mod_cast e)
  constructor
  · intro e
    have e1 : (a.1 : Rat) / (B : Rat) = (b.1 : Rat) / (B : Rat) := congrArg Prod.fst e
    have e2 : (a.2 : Rat) / (B : Rat) = (b.2 : Rat) / (B : Rat) := congrArg Prod.snd e
    have f1 : (a.1 : Rat) = (b.1 : Rat) := by grind
    have f2 : (a.2 : Rat) = (b.2 : Rat) := by grind
    exact Prod.ext (by exact_mod_cast f1) (by exact_mod_cast f2)
  · intro e; rw [e]
theorem btw_eq {B : Int} (hB : 0 < B) (a b p : Int) : btwR ((a : Rat) / (B : Rat)) ((b : Rat) / (B : Rat)) ((p : Rat) / (B : Rat)) = btwI a b p := by
  have hb : (B : Rat) ≠ 0 := fun e => (show B ≠ 0 by omega) (by exact_mod_cast e)
  have h : (((p : Rat) / (B : Rat) - (a : Rat) / (B : Rat)) * ((p : Rat) / (B : Rat) - (b : Rat) / (B : Rat))) * ((B : Rat) * (B : Rat)) = (((p - a) * (p - b) : Int) : Rat) := by
    push_cast
    grind
  have s := (sgn (sq_pos hB) h).2.2
  unfold btwR btwI
  rw [← Bool.decide_and, decide_eq_decide, s]
  constructor
  · intro hn
    refine Classical.byContradiction fun hc => hn ?_
    have : (p < a ∧ p < b) ∨ (a < p ∧ b < p) := by
      split at hc <;> split at hc <;> omega
    rcases this with ⟨h1, h2⟩ | ⟨h1, h2⟩
    · exact Int.mul_pos_of_neg_of_neg (by omega) (by omega)
    · exact Int.mul_pos (by omega) (by omega)
  · intro ⟨h1, h2⟩ hn
    rcases Int.lt_trichotomy p a with g | g | g
    · have : p < b := by
        refine Classical.byContradiction fun hc => ?_
        have : (p - a) * (p - b) ≤ 0 := Int.mul_nonpos_of_nonpos_of_nonneg (by omega) (by omega)
        omega
      split at h1 <;> omega
    · rw [g, Int.sub_self, Int.zero_mul] at hn
      omega
    · have : b < p := by
        refine Classical.byContradiction fun hc => ?_
        have : (p - a) * (p - b) ≤ 0 := Int.mul_nonpos_of_nonneg_of_nonpos (by omega) (by omega)
        omega
      split at h2 <;> omega
theorem with_eq {B : Int} (hB : 0 < B) (cs : List Ip) (p : Ip) : withR (cs.map (ptC B)) (ptC B p) = withI cs p := by
  unfold withR withI
  have hB0 : B ≠ 0 := by omega
  rw [List.length_map]
  have cr : ∀ i j, crR (gp (cs.map (ptC B)) i) (gp (cs.map (ptC B)) j) (ptC B p) * ((B : Rat) * (B : Rat)) = (crI (gi cs i) (gi cs j) p : Rat) := fun i j => by rw [ptC_gp, ptC_gp]; exact crR_ptC hB0 _ _ _
  split
  · rw [decide_eq_decide, ptC_gp, ptC_inj hB0]
  split
  · rw [decide_eq_decide.mpr (sgn (sq_pos hB) (cr 0 1)).1, Bool.and_comm]
    congr 1
    rw [ptC_gp, ptC_gp]
    show (btwR _ _ _ && btwR _ _ _) = _
    rw [show (ptC B (gi cs 0)).1 = ((gi cs 0).1 : Rat) / (B : Rat) from rfl, show (ptC B (gi cs 0)).2 = ((gi cs 0).2 : Rat) / (B : Rat) from rfl, show (ptC B (gi cs 1)).1 = ((gi cs 1).1 : Rat) / (B : Rat) from rfl, show (ptC B (gi cs 1)).2 = ((gi cs 1).2 : Rat) / (B : Rat) from rfl, show (ptC B p).1 = (p.1 : Rat) / (B : Rat) from rfl, show (ptC B p).2 = (p.2 : Rat) / (B : Rat) from rfl, btw_eq hB, btw_eq hB]
  · congr 1
    funext k
    rw [decide_eq_decide, (sgn (sq_pos hB) (cr _ _)).2.1]
    omega
def Bdl (m : Nat) (zs : List Ip) : Prop := ∀ z ∈ zs, z.1.natAbs < 2 ^ m ∧ z.2.natAbs < 2 ^ m
theorem Bdl.up {m n : Nat} {zs : List Ip} (h : Bdl m zs) (e : m ≤ n) : Bdl n zs := fun z hz => ⟨bt_le (h z hz).1 e, bt_le (h z hz).2 e⟩
theorem Bdl.gi {m : Nat} {zs : List Ip} (h : Bdl m zs) (k : Nat) : (gi zs k).1.natAbs < 2 ^ m ∧ (gi zs k).2.natAbs < 2 ^ m := by
  unfold Lw.gi
  by_cases hk : k < zs.length
  · exact getD_in (P := fun z : Ip => z.1.natAbs < 2 ^ m ∧ z.2.natAbs < 2 ^ m) h hk
  · rw [List.getD_eq_getElem?_getD, List.getElem?_eq_none (by omega)]
    exact ⟨Nat.pow_pos (by decide), Nat.pow_pos (by decide)⟩
theorem Bdl.snoc {m : Nat} {zs : List Ip} {z : Ip} (h : Bdl m zs) (hz : z.1.natAbs < 2 ^ m ∧ z.2.natAbs < 2 ^ m) : Bdl m (zs ++ [z]) := fun y hy => (List.mem_append.mp hy).elim (h y) (fun e => by rw [List.mem_singleton.mp e]; exact hz)
theorem Bdl.nil {m : Nat} : Bdl m [] := fun z hz => nomatch hz
theorem Bdl.app {m : Nat} {xs ys : List Ip} (h : Bdl m xs) (h' : Bdl m ys) : Bdl m (xs ++ ys) := fun z hz => (List.mem_append.mp hz).elim (h z) (h' z)
theorem Bdl.sub {m : Nat} {xs ys : List Ip} (h : Bdl m ys) (hs : ∀ z ∈ xs, z ∈ ys) : Bdl m xs := fun z hz => h z (hs z hz)
theorem Bdl.mem {m : Nat} {zs : List Ip} (h : Bdl m zs) {z : Ip} (hz : z ∈ zs) : z.1.natAbs < 2 ^ m ∧ z.2.natAbs < 2 ^ m := h z hz
theorem crI_bt {m : Nat} {a b z : Ip} (ha : a.1.natAbs < 2 ^ m ∧ a.2.natAbs < 2 ^ m) (hb : b.1.natAbs < 2 ^ m ∧ b.2.natAbs < 2 ^ m) (hz : z.1.natAbs < 2 ^ m ∧ z.2.natAbs < 2 ^ m) : (crI a b z).natAbs < 2 ^ (2 * m + 3) := bt_le (bt_sub (bt_mul (bt_sub hb.1 ha.1) (bt_sub hz.2 ha.2)) (bt_mul (bt_sub hb.2 ha.2) (bt_sub hz.1 ha.1))) (by omega)
theorem stk_take {zs : List Ip} {i : Nat} (h : i < zs.length) : stkC (zs.take (i + 1)) = gi zs i :: popC (stkC (zs.take i)) (gi zs i) := by
  rw [List.take_succ, List.getElem?_eq_getElem h]
  show stkC (zs.take i ++ [zs[i]]) = _
  rw [stkC_snoc]
  have : gi zs i = zs[i] := by unfold gi; rw [List.getD_eq_getElem?_getD, List.getElem?_eq_getElem h]; rfl
  rw [this]
theorem chainL_mem {y : Ip} {zs : List Ip} (h : y ∈ chainL zs) : y ∈ zs := stkC_mem zs (List.mem_reverse.mp h)
theorem chainL_len (zs : List Ip) : (chainL zs).length ≤ zs.length := by unfold chainL; rw [List.length_reverse]; exact stkC_len zs
theorem cornersI_mem {y : Ip} {zs : List Ip} (h : y ∈ cornersI zs) : y ∈ zs := by
  unfold cornersI at h
  split at h
  · exact mem_srtP.mp h
  · rcases List.mem_append.mp h with h | h
    · exact mem_srtP.mp (chainL_mem (List.dropLast_subset _ h))
    · exact mem_srtP.mp (List.mem_reverse.mp (chainL_mem (List.dropLast_subset _ h)))
theorem cornersI_len (zs : List Ip) : (cornersI zs).length ≤ 2 * zs.length := by
  have h := srtP_len zs
  unfold cornersI
  split
  · omega
  · have h1 := chainL_len (srtP zs)
    have h2 := chainL_len (srtP zs).reverse
    rw [List.length_reverse] at h2
    rw [List.length_append, List.length_dropLast, List.length_dropLast]
    omega
def selI (p : Ip) (i : Nat) : Int := if i = 0 then p.1 else p.2
theorem at2I {p : Ip} {i : Nat} (h : i < 2) : atI [D.int p.1, D.int p.2] (i : Int) = some (D.int (selI p i)) := by
  match i, h with
  | 0, _ => rfl
  | 1, _ => rfl
theorem atPrv {cs : List Ip} {i : Nat} (h : i < cs.length) : atI (cs.map ip) ((i : Int) - 1) = some (ip (gi cs (prv cs.length i))) := by
  unfold prv
  by_cases h0 : i = 0
  · subst h0
    rw [if_pos rfl]
    exact atM1 (f := ip) ((0, 0) : Ip) (show cs.length = cs.length - 1 + 1 by omega)
  · rw [if_neg h0]
    have := atG (f := ip) ((0, 0) : Ip) (show 0 ≤ (i : Int) - 1 by omega) (show (i : Int) - 1 < (cs.length : Nat) by omega)
    rw [show ((i : Int) - 1).toNat = i - 1 by omega] at this
    exact this
/-! hulls: the mathematics -/
def cv (u w : Ip) : Int := u.1 * w.2 - u.2 * w.1
def lp (u : Ip) : Prop := 0 < u.1 ∨ (u.1 = 0 ∧ 0 < u.2)
def sb (p q : Ip) : Ip := (p.1 - q.1, p.2 - q.2)
theorem cv_id (u v w : Ip) : v.1 * cv u w = u.1 * cv v w + w.1 * cv u v := by unfold cv; grind
theorem cv_neg (u w : Ip) : cv w u = -cv u w := by unfold cv; grind
theorem crI_cv (a b z : Ip) : crI a b z = cv (sb b a) (sb z a) := by unfold crI cv sb; grind
theorem crI_cv2 (a b z : Ip) : crI a b z = cv (sb b a) (sb z b) := by unfold crI cv sb; grind
theorem crI_cv3 (a b z : Ip) : crI a b z = cv (sb b z) (sb b a) := by unfold crI cv sb; grind
theorem lt_lp {p q : Ip} (h : ltP p q = true) : lp (sb q p) := by
  rw [ltP_iff] at h
  show 0 < q.1 - p.1 ∨ (q.1 - p.1 = 0 ∧ 0 < q.2 - p.2)
  omega
theorem pos_of_mul {x y : Int} (hx : 0 < x) (h : 0 < x * y) : 0 < y := by
  refine Classical.byContradiction fun hn => ?_
  have := Int.mul_nonpos_of_nonneg_of_nonpos (show 0 ≤ x by omega) (show y ≤ 0 by omega)
  omega
theorem nn_of_mul {x y : Int} (hx : 0 < x) (h : 0 ≤ x * y) : 0 ≤ y := by
  refine Classical.byContradiction fun hn => ?_
  have := Int.mul_neg_of_pos_of_neg hx (show y < 0 by omega)
  omega
theorem ang {u v w : Ip} (hu : lp u) (hv : lp v) (hw : lp w) (h1 : 0 ≤ cv u v) (h2 : 0 ≤ cv v w) : 0 ≤ cv u w := by
  have u0 : 0 ≤ u.1 := by rcases hu with h | h <;> omega
  have w0 : 0 ≤ w.1 := by rcases hw with h | h <;> omega
  rcases hv with hv | ⟨hv, hv2⟩
  · refine nn_of_mul hv ?_
    rw [cv_id]
    exact Int.add_nonneg (Int.mul_nonneg u0 h2) (Int.mul_nonneg w0 h1)
  · have e : cv v w = -(v.2 * w.1) := by unfold cv; rw [hv]; grind
    rw [e] at h2
    have w1 : w.1 = 0 := by
      refine Classical.byContradiction fun hn => ?_
      have := Int.mul_pos hv2 (show 0 < w.1 by omega)
      omega
    have w2 : 0 < w.2 := by rcases hw with h | h <;> omega
    have e2 : cv u w = u.1 * w.2 := by unfold cv; rw [w1]; grind
    rw [e2]
    exact Int.mul_nonneg u0 (by omega)
theorem ang_l {u v w : Ip} (hu : lp u) (hv : lp v) (hw : lp w) (h1 : 0 < cv u v) (h2 : 0 ≤ cv v w) : 0 < cv u w := by
  have u0 : 0 ≤ u.1 := by rcases hu with h | h <;> omega
  have w0 : 0 ≤ w.1 := by rcases hw with h | h <;> omega
  rcases hv with hv | ⟨hv, hv2⟩
  · refine pos_of_mul hv ?_
    rw [cv_id]
    have a1 := Int.mul_nonneg u0 h2
    by_cases hw1 : 0 < w.1
    · have a2 := Int.mul_pos hw1 h1
      omega
    · have hw1 : w.1 = 0 := by omega
      have w2 : 0 < w.2 := by rcases hw with h | h <;> omega
      have u1 : 0 < u.1 := by
        refine Classical.byContradiction fun hn => ?_
        have hu1 : u.1 = 0 := by omega
        have hu2 : 0 < u.2 := by rcases hu with h | h <;> omega
        have e : cv u v = -(u.2 * v.1) := by unfold cv; rw [hu1]; grind
        have := Int.mul_pos hu2 hv
        omega
      have e : cv v w = v.1 * w.2 := by unfold cv; rw [hw1]; grind
      have a2 := Int.mul_pos u1 (by rw [e]; exact Int.mul_pos hv w2 : 0 < cv v w)
      rw [hw1, Int.zero_mul]
      omega
  · have e : cv v w = -(v.2 * w.1) := by unfold cv; rw [hv]; grind
    rw [e] at h2
    have w1 : w.1 = 0 := by
      refine Classical.byContradiction fun hn => ?_
      have := Int.mul_pos hv2 (show 0 < w.1 by omega)
      omega
    have w2 : 0 < w.2 := by rcases hw with h | h <;> omega
    have e1 : cv u v = u.1 * v.2 := by unfold cv; rw [hv]; grind
    have u1 : 0 < u.1 := by
      refine Classical.byContradiction fun hn => ?_
      have : u.1 = 0 := by omega
      rw [e1, this, Int.zero_mul] at h1
      omega
    have e2 : cv u w = u.1 * w.2 := by unfold cv; rw [w1]; grind
    rw [e2]
    exact Int.mul_pos u1 w2
theorem ang_r {u v w : Ip} (hu : lp u) (hv : lp v) (hw : lp w) (h1 : 0 ≤ cv u v) (h2 : 0 < cv v w) : 0 < cv u w := by
  have u0 : 0 ≤ u.1 := by rcases hu with h | h <;> omega
  have w0 : 0 ≤ w.1 := by rcases hw with h | h <;> omega
  rcases hv with hv | ⟨hv, hv2⟩
  · refine pos_of_mul hv ?_
    rw [cv_id]
    have a1 := Int.mul_nonneg w0 h1
    have u1 : 0 < u.1 := by
      refine Classical.byContradiction fun hn => ?_
      have hu1 : u.1 = 0 := by omega
      have hu2 : 0 < u.2 := by rcases hu with h | h <;> omega
      have e : cv u v = -(u.2 * v.1) := by unfold cv; rw [hu1]; grind
      have := Int.mul_pos hu2 hv
      omega
    have a2 := Int.mul_pos u1 h2
    omega
  · have e : cv v w = -(v.2 * w.1) := by unfold cv; rw [hv]; grind
    have := Int.mul_nonneg (show 0 ≤ v.2 by omega) w0
    omega
/-! ### the chain -/
def EdgesOk (old : List Ip) : List Ip → Prop
  | b :: a :: r => (ltP a b = true ∧ ∀ p ∈ old, 0 ≤ crI a b p) ∧ EdgesOk old (a :: r)
  | _ => True
def TurnsOk : List Ip → Prop
  | c :: b :: a :: r => 0 < crI a b c ∧ TurnsOk (b :: a :: r)
  | _ => True
/-- what is known of a chain: its last place is the greatest, its first one the least -/
structure ChOk (old st : List Ip) : Prop where
  hd : ∃ b r, st = b :: r ∧ ∀ p ∈ old, p = b ∨ ltP p b = true
  ed : EdgesOk old st
  tu : TurnsOk st
  bt : ∃ m, st.getLast? = some m ∧ ∀ p ∈ old, p = m ∨ ltP m p = true
theorem TurnsOk.tail {c : Ip} {r : List Ip} (h : TurnsOk (c :: r)) : TurnsOk r := by
  match r, h with
  | [], _ => trivial
  | [_], _ => trivial
  | b :: a :: r, h => exact h.2
theorem EdgesOk.tail {old : List Ip} {c : Ip} {r : List Ip} (h : EdgesOk old (c :: r)) : EdgesOk old r := by
  match r, h with
  | [], _ => trivial
  | b :: r, h => exact h.2
/-- kept edges look on the new place from the left -/
theorem kept {old : List Ip} {z : Ip} : ∀ (a b : Ip) (r : List Ip), EdgesOk old (b :: a :: r) → TurnsOk (b :: a :: r) → (∀ y ∈ b :: a :: r, ltP y z = true) → 0 < crI a b z → EdgesOk (old ++ [z]) (b :: a :: r)
  | a, b, [], he, ht, hz, h => ⟨⟨he.1.1, fun p hp => (List.mem_append.mp hp).elim (he.1.2 p) (fun e => by rw [List.mem_singleton.mp e]; omega)⟩, trivial⟩
  | a, b, a' :: r, he, ht, hz, h => by
    refine ⟨⟨he.1.1, fun p hp => (List.mem_append.mp hp).elim (he.1.2 p) (fun e => by rw [List.mem_singleton.mp e]; omega)⟩, ?_⟩
    refine kept a' a r he.2 ht.2 (fun y hy => hz y (List.mem_cons_of_mem _ hy)) ?_
    have h1 := ht.1
    rw [crI_cv2] at h1 ⊢
    rw [crI_cv] at h
    exact ang_l (lt_lp he.2.1.1) (lt_lp he.1.1) (lt_lp (hz a (by simp))) h1 (by omega)
theorem popC_last : ∀ (st : List Ip) (z : Ip), (popC st z).getLast? = st.getLast?
  | [], _ => rfl
  | [_], _ => rfl
  | b :: a :: r, z => by
    unfold popC
    split
    · rfl
    · rw [popC_last (a :: r) z, List.getLast?_cons_cons]
theorem push_aux {old : List Ip} {z : Ip} (hz : ∀ p ∈ old, ltP p z = true) : ∀ st : List Ip, (∃ b r, st = b :: r ∧ b ∈ old ∧ (∀ y ∈ r, y ∈ old) ∧ ∀ p ∈ old, ltP b p = true → 0 ≤ crI b z p) → EdgesOk old st → TurnsOk st → (∃ m, st.getLast? = some m ∧ ∀ p ∈ old, p = m ∨ ltP m p = true) →
    EdgesOk (old ++ [z]) (z :: popC st z) ∧ TurnsOk (z :: popC st z)
  | [], ⟨b, r, h, _⟩, _, _, _ => nomatch h
  | [b], ⟨b', r', h, hb, _, hc⟩, _, _, ⟨m, hm, hmin⟩ => by
    cases h
    have hm : b = m := Option.some.inj hm
    subst hm
    refine ⟨⟨⟨hz b hb, fun p hp => ?_⟩, trivial⟩, trivial⟩
    rcases List.mem_append.mp hp with hp | hp
    · rcases hmin p hp with e | e
      · rw [e]
        have : crI b z b = 0 := by unfold crI; grind
        omega
      · exact hc p hp e
    · rw [List.mem_singleton.mp hp]
      have : crI b z z = 0 := by unfold crI; grind
      omega
  | b :: a :: r, ⟨b', r', h, hb, hr, hc⟩, he, ht, hbt => by
    cases h
    have ha : a ∈ old := hr a List.mem_cons_self
    by_cases hl : 0 < crI a b z
    · have e : popC (b :: a :: r) z = b :: a :: r := by unfold popC; rw [if_pos hl]
      rw [e]
      refine ⟨⟨⟨hz b hb, fun p hp => ?_⟩, kept a b r he ht (fun y hy => ?_) hl⟩, hl, ht⟩
      · rcases List.mem_append.mp hp with hp | hp
        · by_cases e1 : p = b
          · rw [e1]
            have : crI b z b = 0 := by unfold crI; grind
            omega
          · by_cases e2 : ltP b p = true
            · exact hc p hp e2
            · have e3 : ltP p b = true := by
                rw [ltP_iff] at *
                have : ¬ (p.1 = b.1 ∧ p.2 = b.2) := fun q => e1 (Prod.ext q.1 q.2)
                omega
              have h1 := he.1.2 p hp
              rw [crI_cv3] at h1 ⊢
              rw [crI_cv2] at hl
              have g := ang_r (lt_lp e3) (lt_lp he.1.1) (lt_lp (hz b hb)) h1 hl
              have f : cv (sb z p) (sb z b) = cv (sb b p) (sb z b) := by unfold cv sb; grind
              rw [f]
              omega
        · rw [List.mem_singleton.mp hp]
          have : crI b z z = 0 := by unfold crI; grind
          omega
      · rcases List.mem_cons.mp hy with e | e
        · rw [e]; exact hz b hb
        · exact hz y (hr y e)
    · have e : popC (b :: a :: r) z = popC (a :: r) z := (popC_step (st := b :: a :: r) (by show 1 < r.length + 2; omega)).trans (if_neg hl)
      rw [e]
      refine push_aux hz (a :: r) ⟨a, r, rfl, ha, fun y hy => hr y (List.mem_cons_of_mem _ hy), fun p hp hpa => ?_⟩ he.2 ht.tail (by rw [List.getLast?_cons_cons] at hbt; exact hbt)
      have h1 := he.1.2 p hp
      rw [crI_cv] at h1 hl ⊢
      refine ang (lt_lp (hz a ha)) (lt_lp he.1.1) (lt_lp hpa) ?_ h1
      rw [cv_neg]
      omega
theorem push_ok {old st : List Ip} {z : Ip} (h : ChOk old st) (hm : ∀ y ∈ st, y ∈ old) (hz : ∀ p ∈ old, ltP p z = true) : ChOk (old ++ [z]) (z :: popC st z) := by
  obtain ⟨b, r, rfl, hb⟩ := h.hd
  obtain ⟨m, hm1, hm2⟩ := h.bt
  have hbo : b ∈ old := hm b List.mem_cons_self
  have irr : ∀ p : Ip, ltP p p = true → False := fun p q => by rw [ltP_iff] at q; omega
  obtain ⟨k1, k2⟩ := push_aux hz (b :: r) ⟨b, r, rfl, hbo, fun y hy => hm y (List.mem_cons_of_mem _ hy), fun p hp hpb => by
    rcases hb p hp with e | e
    · rw [e] at hpb; exact absurd hpb (irr b)
    · exact absurd (ltP_trans hpb e) (irr b)⟩ h.ed h.tu h.bt
  refine ⟨⟨z, _, rfl, fun p hp => ?_⟩, k1, k2, ⟨m, ?_, fun p hp => ?_⟩⟩
  · rcases List.mem_append.mp hp with hp | hp
    · exact .inr (hz p hp)
    · exact .inl (List.mem_singleton.mp hp)
  · have e := popC_last (b :: r) z
    rw [hm1] at e
    have : popC (b :: r) z ≠ [] := fun q => by rw [q] at e; cases e
    obtain ⟨y, t, hy⟩ := List.exists_cons_of_ne_nil this
    rw [hy] at e ⊢
    rw [List.getLast?_cons_cons]
    exact e
  · rcases List.mem_append.mp hp with hp | hp
    · exact hm2 p hp
    · rw [List.mem_singleton.mp hp]
      rcases hm2 b hbo with e | e
      · right; rw [← e]; exact hz b hbo
      · right; exact ltP_trans e (hz b hbo)
theorem stk_ok : ∀ {zs : List Ip}, zs.Pairwise (fun p q => ltP p q = true) → zs ≠ [] → ChOk zs (stkC zs)
  | [], _, h => absurd rfl h
  | z :: ys, hs, _ => by
    suffices h : ∀ (ys old st : List Ip), ChOk old st → (∀ y ∈ st, y ∈ old) → (old ++ ys).Pairwise (fun p q => ltP p q = true) → ChOk (old ++ ys) (ys.foldl (fun st z => z :: popC st z) st) from
      h ys [z] [z] ⟨⟨z, [], rfl, fun p hp => .inl (List.mem_singleton.mp hp)⟩, trivial, trivial, ⟨z, rfl, fun p hp => .inl (List.mem_singleton.mp hp)⟩⟩ (fun y hy => hy) hs
    intro ys
    induction ys with
    | nil => intro old st h _ _; rw [List.append_nil]; exact h
    | cons y r ih =>
      intro old st h hm hp
      have e : old ++ y :: r = (old ++ [y]) ++ r := by simp
      rw [e] at hp ⊢
      have hp1 := (List.pairwise_append.mp (List.pairwise_append.mp hp).1).2.2
      refine ih (old ++ [y]) (y :: popC st y) (push_ok h hm fun p q => hp1 p q y (by simp)) (fun u hu => ?_) hp
      rcases List.mem_cons.mp hu with e | e
      · rw [e]; simp
      · exact List.mem_append_left _ (hm u (popC_mem _ _ e))
/-! ### by numbers -/
theorem edges_at {old : List Ip} : ∀ {st : List Ip}, EdgesOk old st → ∀ k, k + 1 < st.length → ltP (gi st (k + 1)) (gi st k) = true ∧ ∀ p ∈ old, 0 ≤ crI (gi st (k + 1)) (gi st k) p
  | [], _, k, h => absurd h (by simp)
  | [_], _, k, h => absurd h (by simp)
  | b :: a :: r, he, 0, _ => he.1
  | b :: a :: r, he, k + 1, h => edges_at (st := a :: r) he.2 k (by simpa using h)
theorem turns_at : ∀ {st : List Ip}, TurnsOk st → ∀ k, k + 2 < st.length → 0 < crI (gi st (k + 2)) (gi st (k + 1)) (gi st k)
  | [], _, k, h => absurd h (by simp)
  | [_], _, k, h => absurd h (by simp)
  | [_, _], _, k, h => absurd h (by simp)
  | c :: b :: a :: r, ht, 0, _ => ht.1
  | c :: b :: a :: r, ht, k + 1, h => turns_at (st := b :: a :: r) ht.2 k (by simpa using h)
theorem gi_rev {l : List Ip} {k : Nat} (h : k < l.length) : gi l.reverse k = gi l (l.length - 1 - k) := by
  unfold gi
  rw [List.getD_eq_getElem?_getD, List.getD_eq_getElem?_getD, List.getElem?_reverse h]
theorem gi_mem {l : List Ip} {k : Nat} (h : k < l.length) : gi l k ∈ l := getD_in (P := fun z => z ∈ l) (fun _ h => h) h
/-- a chain that goes by the order r from the least to the greatest -/
structure Ch (lt : Ip → Ip → Prop) (old L : List Ip) : Prop where
  ne : 0 < L.length
  sub : ∀ y ∈ L, y ∈ old
  lo : ∀ p ∈ old, p = gi L 0 ∨ lt (gi L 0) p
  hi : ∀ p ∈ old, p = gi L (L.length - 1) ∨ lt p (gi L (L.length - 1))
  up : ∀ k, k + 1 < L.length → lt (gi L k) (gi L (k + 1))
  ed : ∀ k, k + 1 < L.length → ∀ p ∈ old, 0 ≤ crI (gi L k) (gi L (k + 1)) p
  tu : ∀ k, k + 2 < L.length → 0 < crI (gi L k) (gi L (k + 1)) (gi L (k + 2))
theorem chain_ok {zs : List Ip} (hs : zs.Pairwise (fun p q => ltP p q = true)) (hne : zs ≠ []) : Ch (fun p q => ltP p q = true) zs (chainL zs) := by
  have h := stk_ok hs hne
  obtain ⟨b, r, e, hb⟩ := h.hd
  obtain ⟨m, hm1, hm2⟩ := h.bt
  have hl : 0 < (stkC zs).length := by rw [e]; simp
  have ll : (chainL zs).length = (stkC zs).length := List.length_reverse
  have g : ∀ k, k < (stkC zs).length → gi (chainL zs) k = gi (stkC zs) ((stkC zs).length - 1 - k) := fun k hk => gi_rev hk
  have g0 : gi (chainL zs) 0 = m := by
    rw [g 0 hl, Nat.sub_zero]
    unfold gi
    rw [List.getD_eq_getElem?_getD, ← List.getLast?_eq_getElem?, hm1]
    rfl
  have g1 : gi (chainL zs) ((chainL zs).length - 1) = b := by
    rw [ll, g _ (by omega), show (stkC zs).length - 1 - ((stkC zs).length - 1) = 0 by omega, e]
    rfl
  refine ⟨by omega, fun y hy => chainL_mem hy, by rw [g0]; exact hm2, by rw [g1]; exact hb, fun k hk => ?_, fun k hk p hp => ?_, fun k hk => ?_⟩
  · have := (edges_at h.ed ((stkC zs).length - 2 - k) (by omega)).1
    rw [g k (by omega), g (k + 1) (by omega), show (stkC zs).length - 1 - k = (stkC zs).length - 2 - k + 1 by omega, show (stkC zs).length - 1 - (k + 1) = (stkC zs).length - 2 - k by omega]
    exact this
  · have := (edges_at h.ed ((stkC zs).length - 2 - k) (by omega)).2 p hp
    rw [g k (by omega), g (k + 1) (by omega), show (stkC zs).length - 1 - k = (stkC zs).length - 2 - k + 1 by omega, show (stkC zs).length - 1 - (k + 1) = (stkC zs).length - 2 - k by omega]
    exact this
  · have := turns_at h.tu ((stkC zs).length - 3 - k) (by omega)
    rw [g k (by omega), g (k + 1) (by omega), g (k + 2) (by omega), show (stkC zs).length - 1 - k = (stkC zs).length - 3 - k + 2 by omega, show (stkC zs).length - 1 - (k + 1) = (stkC zs).length - 3 - k + 1 by omega, show (stkC zs).length - 1 - (k + 2) = (stkC zs).length - 3 - k by omega]
    exact this
/-! ### the other way round -/
def ng (p : Ip) : Ip := (-p.1, -p.2)
theorem ng_ng (p : Ip) : ng (ng p) = p := by unfold ng; simp
theorem crI_ng (a b z : Ip) : crI (ng a) (ng b) (ng z) = crI a b z := by unfold crI ng; grind
theorem ltP_ng {p q : Ip} : ltP (ng p) (ng q) = true ↔ ltP q p = true := by rw [ltP_iff, ltP_iff]; unfold ng; dsimp only; omega
theorem popC_ng : ∀ (st : List Ip) (z : Ip), popC (st.map ng) (ng z) = (popC st z).map ng
  | [], _ => rfl
  | [_], _ => rfl
  | b :: a :: r, z => by
    show popC (ng b :: ng a :: r.map ng) (ng z) = _
    unfold popC
    rw [crI_ng]
    split
    · rfl
    · exact popC_ng (a :: r) z
theorem stkC_ng (zs : List Ip) : stkC (zs.map ng) = (stkC zs).map ng := by
  suffices h : ∀ (ys st : List Ip), (ys.map ng).foldl (fun st z => z :: popC st z) (st.map ng) = (ys.foldl (fun st z => z :: popC st z) st).map ng from h zs []
  intro ys
  induction ys with
  | nil => intro st; rfl
  | cons y r ih =>
    intro st
    show (r.map ng).foldl _ (ng y :: popC (st.map ng) (ng y)) = _
    rw [popC_ng]
    exact ih (y :: popC st y)
theorem chainL_ng (zs : List Ip) : chainL (zs.map ng) = (chainL zs).map ng := by unfold chainL; rw [stkC_ng, List.map_reverse]
theorem gi_ng (l : List Ip) (k : Nat) : gi (l.map ng) k = ng (gi l k) := by
  unfold gi
  rw [List.getD_eq_getElem?_getD, List.getD_eq_getElem?_getD, List.getElem?_map]
  cases l[k]? with
  | none => rfl
  | some z => rfl
theorem chain_back {zs : List Ip} (hs : zs.Pairwise (fun p q => ltP p q = true)) (hne : zs ≠ []) : Ch (fun p q => ltP q p = true) zs (chainL zs.reverse) := by
  have hs2 : (zs.reverse.map ng).Pairwise (fun p q => ltP p q = true) := by
    rw [List.pairwise_map, List.pairwise_reverse]
    exact hs.imp fun h => ltP_ng.mpr h
  have hne2 : zs.reverse.map ng ≠ [] := fun e => hne (by have := congrArg List.length e; simp at this; exact this)
  have h := chain_ok hs2 hne2
  rw [chainL_ng] at h
  have mm : ∀ p, p ∈ zs → ng p ∈ zs.reverse.map ng := fun p hp => List.mem_map.mpr ⟨p, List.mem_reverse.mpr hp, rfl⟩
  have ll : ((chainL zs.reverse).map ng).length = (chainL zs.reverse).length := List.length_map _
  have inj : ∀ p q : Ip, ng p = ng q → p = q := fun p q e => by rw [← ng_ng p, e, ng_ng]
  refine ⟨by rw [← ll]; exact h.ne, fun y hy => List.mem_reverse.mp (chainL_mem hy), fun p hp => ?_, fun p hp => ?_, fun k hk => ?_, fun k hk p hp => ?_, fun k hk => ?_⟩
  · rcases h.lo _ (mm p hp) with e | e
    · rw [gi_ng] at e; exact .inl (inj _ _ e)
    · rw [gi_ng] at e; exact .inr (ltP_ng.mp e)
  · rcases h.hi _ (mm p hp) with e | e
    · rw [ll, gi_ng] at e; exact .inl (inj _ _ e)
    · rw [ll, gi_ng] at e; exact .inr (ltP_ng.mp e)
  · have := h.up k (by rw [ll]; exact hk)
    rw [gi_ng, gi_ng] at this
    exact ltP_ng.mp this
  · have := h.ed k (by rw [ll]; exact hk) _ (mm p hp)
    rw [gi_ng, gi_ng, crI_ng] at this
    exact this
  · have := h.tu k (by rw [ll]; exact hk)
    rw [gi_ng, gi_ng, gi_ng, crI_ng] at this
    exact this
theorem gi_left {a b : List Ip} {k : Nat} (h : k < a.length) : gi (a ++ b) k = gi a k := by
  unfold gi
  rw [List.getD_eq_getElem?_getD, List.getD_eq_getElem?_getD, List.getElem?_append_left h]
theorem gi_right {a b : List Ip} {k : Nat} (h : a.length ≤ k) : gi (a ++ b) k = gi b (k - a.length) := by
  unfold gi
  rw [List.getD_eq_getElem?_getD, List.getD_eq_getElem?_getD, List.getElem?_append_right h]
theorem gi_dropLast {a : List Ip} {k : Nat} (h : k < a.length - 1) : gi a.dropLast k = gi a k := by
  unfold gi
  rw [List.getD_eq_getElem?_getD, List.getD_eq_getElem?_getD, List.getElem?_dropLast, if_pos h]
theorem lt_irr {p q : Ip} (h : ltP p q = true) (h' : ltP q p = true) : False := by rw [ltP_iff] at h h'; omega
theorem lt_irr1 {p : Ip} (h : ltP p p = true) : False := lt_irr h h
theorem tri {p q : Ip} (h : p ≠ q) (h' : ¬ ltP p q = true) : ltP q p = true := by
  rw [ltP_iff] at *
  have : ¬ (p.1 = q.1 ∧ p.2 = q.2) := fun e => h (Prod.ext e.1 e.2)
  omega
/-- what is known of a hull of two places at least: its lower chain L, its upper one U -/
structure Hu (zs L U : List Ip) : Prop where
  l : Ch (fun p q => ltP p q = true) zs L
  u : Ch (fun p q => ltP q p = true) zs U
  n2 : 2 ≤ L.length
  m2 : 2 ≤ U.length
  lo : gi L 0 = gi U (U.length - 1)
  hi : gi L (L.length - 1) = gi U 0
theorem hu_of {s zs : List Ip} (hs : s.Pairwise (fun p q => ltP p q = true)) (hm : ∀ z, z ∈ s ↔ z ∈ zs) (h2 : 2 ≤ s.length) : Hu zs (chainL s) (chainL s.reverse) := by
  have hne : s ≠ [] := fun e => by rw [e] at h2; exact absurd h2 (by decide)
  have l0 := chain_ok hs hne
  have u0 := chain_back hs hne
  have l : Ch (fun p q => ltP p q = true) zs (chainL s) := ⟨l0.ne, fun y hy => (hm y).mp (l0.sub y hy), fun p hp => l0.lo p ((hm p).mpr hp), fun p hp => l0.hi p ((hm p).mpr hp), l0.up, fun k hk p hp => l0.ed k hk p ((hm p).mpr hp), l0.tu⟩
  have u : Ch (fun p q => ltP q p = true) zs (chainL s.reverse) := ⟨u0.ne, fun y hy => (hm y).mp (u0.sub y hy), fun p hp => u0.lo p ((hm p).mpr hp), fun p hp => u0.hi p ((hm p).mpr hp), u0.up, fun k hk p hp => u0.ed k hk p ((hm p).mpr hp), u0.tu⟩
  have lo : gi (chainL s) 0 = gi (chainL s.reverse) ((chainL s.reverse).length - 1) := by
    have a := l.lo _ (u.sub _ (gi_mem (show (chainL s.reverse).length - 1 < _ by have := u.ne; omega)))
    have b := u.hi _ (l.sub _ (gi_mem l.ne))
    rcases a with a | a
    · exact a.symm
    · rcases b with b | b
      · exact b
      · exact absurd b (fun b => lt_irr a b)
  have hi : gi (chainL s) ((chainL s).length - 1) = gi (chainL s.reverse) 0 := by
    have a := l.hi _ (u.sub _ (gi_mem u.ne))
    have b := u.lo _ (l.sub _ (gi_mem (show (chainL s).length - 1 < _ by have := l.ne; omega)))
    rcases a with a | a
    · exact a.symm
    · rcases b with b | b
      · exact b
      · exact absurd b (fun b => lt_irr a b)
  obtain ⟨x, y, r, rfl⟩ : ∃ x y r, s = x :: y :: r := by match s, h2 with | x :: y :: r, _ => exact ⟨x, y, r, rfl⟩
  have hxy : ltP x y = true := (List.pairwise_cons.mp hs).1 y List.mem_cons_self
  have hx : x ∈ zs := (hm x).mp (by simp)
  have hy : y ∈ zs := (hm y).mp (by simp)
  refine ⟨l, u, ?_, ?_, lo, hi⟩
  · refine Classical.byContradiction fun hn => ?_
    have e : (chainL (x :: y :: r)).length - 1 = 0 := by have := l.ne; omega
    have h1 := l.hi y hy
    have h2 := l.lo x hx
    rw [e] at h1
    rcases h1 with h1 | h1 <;> rcases h2 with h2 | h2
    · have e : x = y := h2.trans h1.symm
      rw [e] at hxy; exact lt_irr1 hxy
    · rw [← h1] at h2; exact lt_irr h2 hxy
    · rw [← h2] at h1; exact lt_irr h1 hxy
    · exact lt_irr1 (ltP_trans (ltP_trans h2 hxy) h1)
  · refine Classical.byContradiction fun hn => ?_
    have e : (chainL (x :: y :: r).reverse).length - 1 = 0 := by have := u.ne; omega
    have h1 := u.hi x hx
    have h2 := u.lo y hy
    rw [e] at h1
    rcases h1 with h1 | h1 <;> rcases h2 with h2 | h2
    · have e : x = y := h1.trans h2.symm
      rw [e] at hxy; exact lt_irr1 hxy
    · rw [← h1] at h2; exact lt_irr h2 hxy
    · rw [← h2] at h1; exact lt_irr h1 hxy
    · exact lt_irr1 (ltP_trans (ltP_trans h1 hxy) h2)
section
variable {zs L U : List Ip}
theorem Hu.len (h : Hu zs L U) : (L.dropLast ++ U.dropLast).length = (L.length - 1) + (U.length - 1) := by rw [List.length_append, List.length_dropLast, List.length_dropLast]
theorem Hu.gl (h : Hu zs L U) {k : Nat} (hk : k < L.length - 1) : gi (L.dropLast ++ U.dropLast) k = gi L k := by
  rw [gi_left (by rw [List.length_dropLast]; exact hk), gi_dropLast hk]
theorem Hu.gu (h : Hu zs L U) {j : Nat} (hj : j < U.length - 1) : gi (L.dropLast ++ U.dropLast) (L.length - 1 + j) = gi U j := by
  rw [gi_right (by rw [List.length_dropLast]; omega), List.length_dropLast, show L.length - 1 + j - (L.length - 1) = j by omega, gi_dropLast hj]
/-- each way from a corner to the next one -/
theorem Hu.cyc (h : Hu zs L U) {k : Nat} (hk : k < (L.dropLast ++ U.dropLast).length) :
    (∃ j, j + 1 < L.length ∧ gi (L.dropLast ++ U.dropLast) (prv (L.dropLast ++ U.dropLast).length k) = gi L j ∧ gi (L.dropLast ++ U.dropLast) k = gi L (j + 1) ∧ k = j + 1) ∨
    (∃ j, j + 1 < U.length ∧ gi (L.dropLast ++ U.dropLast) (prv (L.dropLast ++ U.dropLast).length k) = gi U j ∧ gi (L.dropLast ++ U.dropLast) k = gi U (j + 1) ∧ (k = L.length - 1 + (j + 1) ∨ (k = 0 ∧ j + 2 = U.length))) := by
  have n2 := h.n2
  have m2 := h.m2
  have hl := h.len
  rw [hl] at hk
  unfold prv
  rw [hl]
  by_cases k0 : k = 0
  · subst k0
    rw [if_pos rfl]
    refine .inr ⟨U.length - 2, by omega, ?_, ?_, .inr ⟨rfl, by omega⟩⟩
    · rw [show L.length - 1 + (U.length - 1) - 1 = L.length - 1 + (U.length - 2) by omega]
      exact h.gu (by omega)
    · rw [h.gl (by omega), show U.length - 2 + 1 = U.length - 1 by omega]
      exact h.lo
  · rw [if_neg k0]
    by_cases k1 : k < L.length - 1
    · exact .inl ⟨k - 1, by omega, h.gl (by omega), by rw [show k - 1 + 1 = k by omega]; exact h.gl k1, by omega⟩
    · by_cases k2 : k = L.length - 1
      · refine .inl ⟨k - 1, by omega, h.gl (by omega), ?_, by omega⟩
        rw [show k - 1 + 1 = L.length - 1 by omega, h.hi, k2]
        have := h.gu (j := 0) (by omega)
        rw [Nat.add_zero] at this
        exact this
      · obtain ⟨j, hj⟩ : ∃ j, k = L.length - 1 + (j + 1) := ⟨k - (L.length - 1) - 1, by omega⟩
        subst hj
        refine .inr ⟨j, by omega, ?_, ?_, .inl rfl⟩
        · rw [show L.length - 1 + (j + 1) - 1 = L.length - 1 + j by omega]
          exact h.gu (by omega)
        · exact h.gu (by omega)
theorem Hu.edge (h : Hu zs L U) {k : Nat} (hk : k < (L.dropLast ++ U.dropLast).length) {p : Ip} (hp : p ∈ zs) : 0 ≤ crI (gi (L.dropLast ++ U.dropLast) (prv (L.dropLast ++ U.dropLast).length k)) (gi (L.dropLast ++ U.dropLast) k) p := by
  rcases h.cyc hk with ⟨j, hj, e1, e2, _⟩ | ⟨j, hj, e1, e2, _⟩
  · rw [e1, e2]; exact h.l.ed j hj p hp
  · rw [e1, e2]; exact h.u.ed j hj p hp
end
theorem flat {u v x : Ip} (hu : lp u) (hv : lp v) (hx : lp x) (h0 : cv u v = 0) (h1 : cv u x ≤ 0) (h2 : 0 ≤ cv v x) : cv u x = 0 ∧ cv v x = 0 := by
  have a := ang hu hv hx (by omega) h2
  have e1 : cv u x = 0 := by omega
  have b : 0 ≤ cv x v := ang hx hu hv (by rw [cv_neg]; omega) (by omega)
  rw [cv_neg] at b
  exact ⟨e1, by omega⟩
theorem crI_rot (a b z : Ip) : crI a b z = crI b z a := by unfold crI; grind
theorem crI_swap (a b z : Ip) : crI b a z = -crI a b z := by unfold crI; grind
/-- all on one line, where the way turns not at the greatest (least) corner -/
theorem Hu.turn (h : Hu (zs := zs) L U) (h3 : 3 ≤ (L.dropLast ++ U.dropLast).length) : 0 < crI (gi L (L.length - 2)) (gi L (L.length - 1)) (gi U 1) ∧ 0 < crI (gi U (U.length - 2)) (gi L 0) (gi L 1) := by
  have n2 := h.n2
  have m2 := h.m2
  rw [h.len] at h3
  have lm : ∀ k, k < L.length → gi L k ∈ zs := fun k hk => h.l.sub _ (gi_mem hk)
  have um : ∀ k, k < U.length → gi U k ∈ zs := fun k hk => h.u.sub _ (gi_mem hk)
  constructor
  · have e0 := h.l.ed (L.length - 2) (by omega) (gi U 1) (um 1 (by omega))
    rw [show L.length - 2 + 1 = L.length - 1 by omega] at e0
    refine Classical.byContradiction fun hn => ?_
    have z0 : crI (gi L (L.length - 2)) (gi L (L.length - 1)) (gi U 1) = 0 := by omega
    have ha := h.l.up (L.length - 2) (by omega)
    rw [show L.length - 2 + 1 = L.length - 1 by omega] at ha
    have hc : ltP (gi U 1) (gi U 0) = true := h.u.up 0 (by omega)
    rw [← h.hi] at hc
    have key : ∀ p ∈ zs, p ≠ gi L (L.length - 1) → crI (gi L (L.length - 2)) (gi L (L.length - 1)) p = 0 ∧ crI (gi L (L.length - 1)) (gi U 1) p = 0 := by
      intro p hp hne
      have hpb := (h.l.hi p hp).resolve_left hne
      have f1 := h.l.ed (L.length - 2) (by omega) p hp
      rw [show L.length - 2 + 1 = L.length - 1 by omega] at f1
      have f2 : 0 ≤ crI (gi U 0) (gi U 1) p := h.u.ed 0 (by omega) p hp
      rw [← h.hi] at f2
      rw [crI_cv3] at f1 z0 ⊢
      have g2 : crI (gi L (L.length - 1)) (gi U 1) p = cv (sb (gi L (L.length - 1)) (gi U 1)) (sb (gi L (L.length - 1)) p) := by unfold crI cv sb; grind
      rw [g2] at f2 ⊢
      have := flat (lt_lp ha) (lt_lp hc) (lt_lp hpb) (by rw [cv_neg]; omega) (by rw [cv_neg]; omega) f2
      exact ⟨by rw [cv_neg]; omega, this.2⟩
    rcases (show 3 ≤ L.length ∨ 3 ≤ U.length by omega) with g | g
    · have t := h.l.tu (L.length - 3) (by omega)
      rw [show L.length - 3 + 1 = L.length - 2 by omega, show L.length - 3 + 2 = L.length - 1 by omega, crI_rot] at t
      have ne : gi L (L.length - 3) ≠ gi L (L.length - 1) := fun e => by
        have h1 := h.l.up (L.length - 3) (by omega)
        rw [show L.length - 3 + 1 = L.length - 2 by omega, e] at h1
        exact lt_irr h1 ha
      have := (key _ (lm _ (by omega)) ne).1
      omega
    · have t : 0 < crI (gi U 0) (gi U 1) (gi U 2) := h.u.tu 0 (by omega)
      rw [← h.hi] at t
      have ne : gi U 2 ≠ gi L (L.length - 1) := fun e => by
        have h1 := h.u.up 1 (by omega)
        rw [show 1 + 1 = 2 from rfl, e] at h1
        exact lt_irr h1 hc
      have := (key _ (um 2 (by omega)) ne).2
      omega
  · have e0 := h.u.ed (U.length - 2) (by omega) (gi L 1) (lm 1 (by omega))
    rw [show U.length - 2 + 1 = U.length - 1 by omega, ← h.lo] at e0
    refine Classical.byContradiction fun hn => ?_
    have z0 : crI (gi U (U.length - 2)) (gi L 0) (gi L 1) = 0 := by omega
    have ha := h.u.up (U.length - 2) (by omega)
    rw [show U.length - 2 + 1 = U.length - 1 by omega, ← h.lo] at ha
    have hc : ltP (gi L 0) (gi L 1) = true := h.l.up 0 (by omega)
    have key : ∀ p ∈ zs, p ≠ gi L 0 → crI (gi U (U.length - 2)) (gi L 0) p = 0 ∧ crI (gi L 0) (gi L 1) p = 0 := by
      intro p hp hne
      have hpb := (h.l.lo p hp).resolve_left hne
      have f1 := h.u.ed (U.length - 2) (by omega) p hp
      rw [show U.length - 2 + 1 = U.length - 1 by omega, ← h.lo] at f1
      have f2 : 0 ≤ crI (gi L 0) (gi L 1) p := h.l.ed 0 (by omega) p hp
      have g1 : ∀ q, crI (gi U (U.length - 2)) (gi L 0) q = -cv (sb (gi U (U.length - 2)) (gi L 0)) (sb q (gi L 0)) := fun q => by unfold crI cv sb; grind
      rw [g1] at f1 z0 ⊢
      rw [crI_cv] at f2 ⊢
      have := flat (lt_lp ha) (lt_lp hc) (lt_lp hpb) (by omega) (by omega) f2
      exact ⟨by omega, this.2⟩
    rcases (show 3 ≤ L.length ∨ 3 ≤ U.length by omega) with g | g
    · have t : 0 < crI (gi L 0) (gi L 1) (gi L 2) := h.l.tu 0 (by omega)
      have ne : gi L 2 ≠ gi L 0 := fun e => by
        have h1 := h.l.up 1 (by omega)
        rw [show 1 + 1 = 2 from rfl, e] at h1
        exact lt_irr h1 hc
      have := (key _ (lm 2 (by omega)) ne).2
      omega
    · have t := h.u.tu (U.length - 3) (by omega)
      rw [show U.length - 3 + 1 = U.length - 2 by omega, show U.length - 3 + 2 = U.length - 1 by omega, ← h.lo, crI_rot] at t
      have ne : gi U (U.length - 3) ≠ gi L 0 := fun e => by
        have h1 := h.u.up (U.length - 3) (by omega)
        rw [show U.length - 3 + 1 = U.length - 2 by omega, e] at h1
        exact lt_irr h1 ha
      have := (key _ (um _ (by omega)) ne).1
      omega
theorem Hu.turns {zs L U : List Ip} (h : Hu zs L U) (h3 : 3 ≤ (L.dropLast ++ U.dropLast).length) {k : Nat} (hk : k < (L.dropLast ++ U.dropLast).length) :
    0 < crI (gi (L.dropLast ++ U.dropLast) (prv (L.dropLast ++ U.dropLast).length (prv (L.dropLast ++ U.dropLast).length k))) (gi (L.dropLast ++ U.dropLast) (prv (L.dropLast ++ U.dropLast).length k)) (gi (L.dropLast ++ U.dropLast) k) := by
  have n2 := h.n2
  have m2 := h.m2
  have hl := h.len
  have ht := h.turn h3
  have hp : prv (L.dropLast ++ U.dropLast).length k < (L.dropLast ++ U.dropLast).length := by unfold prv; split <;> omega
  rcases h.cyc hk with ⟨j, hj, e1, e2, e3⟩ | ⟨j, hj, e1, e2, e3⟩
  · rcases h.cyc hp with ⟨i, hi, f1, f2, f3⟩ | ⟨i, hi, f1, f2, f3⟩
    · have eij : j = i + 1 := by
        have : prv (L.dropLast ++ U.dropLast).length k = j := by unfold prv; rw [if_neg (by omega)]; omega
        omega
      subst eij
      rw [f1, e1, e2]
      exact h.l.tu i hj
    · have pk : prv (L.dropLast ++ U.dropLast).length k = j := by unfold prv; rw [if_neg (by omega)]; omega
      have : j = 0 ∧ i + 2 = U.length := by omega
      obtain ⟨rfl, hiu⟩ := this
      rw [f1, e1, e2, show i = U.length - 2 by omega]
      exact ht.2
  · rcases h.cyc hp with ⟨i, hi, f1, f2, f3⟩ | ⟨i, hi, f1, f2, f3⟩
    · have pk : prv (L.dropLast ++ U.dropLast).length k = i + 1 := f3
      unfold prv at pk
      have : j = 0 ∧ i + 2 = L.length := by
        rcases e3 with e3 | ⟨e3, e4⟩
        · rw [if_neg (by omega)] at pk
          omega
        · rw [if_pos e3] at pk
          omega
      obtain ⟨rfl, hil⟩ := this
      rw [f1, e1, ← h.hi, e2, show i = L.length - 2 by omega]
      exact ht.1
    · have eij : j = i + 1 := by
        unfold prv at f3
        rcases e3 with e3 | ⟨e3, e4⟩
        · rw [if_neg (by omega)] at f3
          omega
        · rw [if_pos e3] at f3
          omega
      subst eij
      rw [f1, e1, e2]
      exact h.u.tu i hj
/-! each corner once -/
theorem Ch.mono {lt : Ip → Ip → Prop} {old L : List Ip} (h : Ch lt old L) (tr : ∀ a b c, lt a b → lt b c → lt a c) : ∀ d i, i + d + 1 < L.length → lt (gi L i) (gi L (i + d + 1))
  | 0, i, hi => h.up i hi
  | d + 1, i, hi => tr _ _ _ (Ch.mono h tr d i (by omega)) (h.up (i + d + 1) hi)
theorem Ch.inj {lt : Ip → Ip → Prop} {old L : List Ip} (h : Ch lt old L) (tr : ∀ a b c, lt a b → lt b c → lt a c) (ir : ∀ a, ¬ lt a a) {i j : Nat} (hi : i < L.length) (hj : j < L.length) (e : gi L i = gi L j) : i = j := by
  rcases Nat.lt_trichotomy i j with g | g | g
  · have := h.mono tr (j - i - 1) i (by omega)
    rw [show i + (j - i - 1) + 1 = j by omega, e] at this
    exact absurd this (ir _)
  · exact g
  · have := h.mono tr (i - j - 1) j (by omega)
    rw [show j + (i - j - 1) + 1 = i by omega, e] at this
    exact absurd this (ir _)
theorem Hu.once {zs L U : List Ip} (h : Hu zs L U) {i j : Nat} (hi : i < (L.dropLast ++ U.dropLast).length) (hj : j < (L.dropLast ++ U.dropLast).length) (e : gi (L.dropLast ++ U.dropLast) i = gi (L.dropLast ++ U.dropLast) j) : i = j := by
  have n2 := h.n2
  have m2 := h.m2
  have hl := h.len
  rw [hl] at hi hj
  have il : ∀ {i j : Nat}, i < L.length → j < L.length → gi L i = gi L j → i = j := fun hi hj e => h.l.inj (fun _ _ _ a b => ltP_trans a b) (fun _ a => lt_irr1 a) hi hj e
  have iu : ∀ {i j : Nat}, i < U.length → j < U.length → gi U i = gi U j → i = j := fun hi hj e => h.u.inj (fun _ _ _ a b => ltP_trans b a) (fun _ a => lt_irr1 a) hi hj e
  have dis : ∀ i j, i < L.length - 1 → j < U.length - 1 → gi L i ≠ gi U j := by
    intro i j hi hj e
    have i0 : i ≠ 0 := fun z => by
      subst z
      rw [h.lo] at e
      have := iu (by omega) (by omega) e
      omega
    have j0 : j ≠ 0 := fun z => by
      subst z
      rw [← h.hi] at e
      have := il (by omega) (by omega) e
      omega
    have t := h.l.tu (i - 1) (by omega)
    rw [show i - 1 + 1 = i by omega, show i - 1 + 2 = i + 1 by omega] at t
    have u1 := h.l.up (i - 1) (by omega)
    rw [show i - 1 + 1 = i by omega] at u1
    have u2 := h.l.up i (by omega)
    have v1 := h.u.up (j - 1) (by omega)
    rw [show j - 1 + 1 = j by omega, ← e] at v1
    have w1 := h.u.ed (j - 1) (by omega) (gi L (i + 1)) (h.l.sub _ (gi_mem (by omega)))
    have w2 := h.u.ed (j - 1) (by omega) (gi L (i - 1)) (h.l.sub _ (gi_mem (by omega)))
    rw [show j - 1 + 1 = j by omega, ← e] at w1 w2
    have g1 : crI (gi U (j - 1)) (gi L i) (gi L (i + 1)) = cv (sb (gi L (i + 1)) (gi L i)) (sb (gi U (j - 1)) (gi L i)) := by unfold crI cv sb; grind
    have g2 : crI (gi U (j - 1)) (gi L i) (gi L (i - 1)) = cv (sb (gi U (j - 1)) (gi L i)) (sb (gi L i) (gi L (i - 1))) := by unfold crI cv sb; grind
    rw [g1] at w1
    rw [g2] at w2
    have := ang (lt_lp u2) (lt_lp v1) (lt_lp u1) w1 w2
    rw [crI_cv2] at t
    rw [cv_neg] at this
    omega
  by_cases h1 : i < L.length - 1
  · rw [h.gl h1] at e
    by_cases h2 : j < L.length - 1
    · rw [h.gl h2] at e
      exact il (by omega) (by omega) e
    · obtain ⟨b, rfl⟩ : ∃ b, j = L.length - 1 + b := ⟨j - (L.length - 1), by omega⟩
      rw [h.gu (by omega)] at e
      exact absurd e (dis i b h1 (by omega))
  · obtain ⟨a, rfl⟩ : ∃ a, i = L.length - 1 + a := ⟨i - (L.length - 1), by omega⟩
    rw [h.gu (by omega)] at e
    by_cases h2 : j < L.length - 1
    · rw [h.gl h2] at e
      exact absurd e.symm (dis j a h2 (by omega))
    · obtain ⟨b, rfl⟩ : ∃ b, j = L.length - 1 + b := ⟨j - (L.length - 1), by omega⟩
      rw [h.gu (by omega)] at e
      have := iu (by omega) (by omega) e
      omega
/-! all places lie in the hull -/
theorem btw_lo {a b p : Int} (h1 : a ≤ p) (h2 : p ≤ b) : btwI a b p = true := by
  unfold btwI
  rw [decide_eq_true (show (if b < a then b else a) ≤ p by split <;> omega), decide_eq_true (show p ≤ (if a < b then b else a) by split <;> omega)]
  rfl
theorem btw_hi {a b p : Int} (h1 : b ≤ p) (h2 : p ≤ a) : btwI a b p = true := by
  unfold btwI
  rw [decide_eq_true (show (if b < a then b else a) ≤ p by split <;> omega), decide_eq_true (show p ≤ (if a < b then b else a) by split <;> omega)]
  rfl
theorem on_line {a b p : Ip} (h1 : p = a ∨ ltP a p = true) (h2 : p = b ∨ ltP p b = true) (h : crI a b p = 0) : btwI a.1 b.1 p.1 = true ∧ btwI a.2 b.2 p.2 = true := by
  have x1 : a.1 < p.1 ∨ (a.1 = p.1 ∧ a.2 ≤ p.2) := by
    rcases h1 with e | e
    · rw [e]; omega
    · rw [ltP_iff] at e; omega
  have x2 : p.1 < b.1 ∨ (p.1 = b.1 ∧ p.2 ≤ b.2) := by
    rcases h2 with e | e
    · rw [e]; omega
    · rw [ltP_iff] at e; omega
  refine ⟨btw_lo (by omega) (by omega), ?_⟩
  by_cases e : a.1 = b.1
  · exact btw_lo (by omega) (by omega)
  · have hd : 0 < b.1 - a.1 := by omega
    have k1 : (b.1 - a.1) * (p.2 - a.2) = (b.2 - a.2) * (p.1 - a.1) := by unfold crI at h; omega
    have k2 : (b.1 - a.1) * (b.2 - p.2) = (b.2 - a.2) * (b.1 - p.1) := by
      have : (b.1 - a.1) * (b.2 - p.2) = (b.1 - a.1) * (b.2 - a.2) - (b.1 - a.1) * (p.2 - a.2) := by grind
      rw [this, k1]
      grind
    by_cases g : a.2 ≤ b.2
    · have m1 := nn_of_mul hd (by rw [k1]; exact Int.mul_nonneg (by omega) (by omega))
      have m2 := nn_of_mul hd (by rw [k2]; exact Int.mul_nonneg (by omega) (by omega))
      exact btw_lo (by omega) (by omega)
    · have m1 : 0 ≤ a.2 - p.2 := nn_of_mul hd (by
        have : (b.1 - a.1) * (a.2 - p.2) = (a.2 - b.2) * (p.1 - a.1) := by grind
        rw [this]; exact Int.mul_nonneg (by omega) (by omega))
      have m2 : 0 ≤ p.2 - b.2 := nn_of_mul hd (by
        have : (b.1 - a.1) * (p.2 - b.2) = (a.2 - b.2) * (b.1 - p.1) := by grind
        rw [this]; exact Int.mul_nonneg (by omega) (by omega))
      exact btw_hi (by omega) (by omega)
theorem Hu.with {zs L U : List Ip} (h : Hu zs L U) {p : Ip} (hp : p ∈ zs) : withI (L.dropLast ++ U.dropLast) p = true := by
  have n2 := h.n2
  have m2 := h.m2
  have hl := h.len
  unfold withI
  rw [if_neg (by omega)]
  by_cases h2 : (L.dropLast ++ U.dropLast).length = 2
  · rw [if_pos h2]
    have e0 : gi (L.dropLast ++ U.dropLast) 0 = gi L 0 := h.gl (by omega)
    have e1 : gi (L.dropLast ++ U.dropLast) 1 = gi L 1 := by
      have := h.gu (j := 0) (by omega)
      rw [show L.length - 1 + 0 = 1 by omega, ← h.hi, show L.length - 1 = 1 by omega] at this
      exact this
    rw [e0, e1]
    have c1 := h.l.ed 0 (by omega) p hp
    have c2 := h.u.ed 0 (by omega) p hp
    rw [← h.hi, show L.length - 1 = 1 by omega, show 0 + 1 = U.length - 1 by omega, ← h.lo, crI_swap] at c2
    have c0 : crI (gi L 0) (gi L 1) p = 0 := by
      rw [show 0 + 1 = 1 from rfl] at c1
      omega
    have hh := h.l.hi p hp
    rw [show L.length - 1 = 1 by omega] at hh
    obtain ⟨b1, b2⟩ := on_line (h.l.lo p hp) hh c0
    rw [b1, b2, decide_eq_true c0]
    rfl
  · rw [if_neg h2]
    refine List.all_eq_true.mpr fun k hk => decide_eq_true (h.edge (List.mem_range.mp hk) hp)
theorem within_all {zs : List Ip} {p : Ip} (hp : p ∈ zs) : withI (cornersI zs) p = true := by
  have hps : p ∈ srtP zs := mem_srtP.mpr hp
  unfold cornersI
  split
  · rename_i e
    obtain ⟨z, ez⟩ : ∃ z, srtP zs = [z] := by match srtP zs, e with | [z], _ => exact ⟨z, rfl⟩
    rw [ez] at hps ⊢
    unfold withI
    rw [if_pos (by rfl)]
    exact decide_eq_true (List.mem_singleton.mp hps)
  · rename_i e
    have : 0 < (srtP zs).length := List.length_pos_of_mem hps
    exact (hu_of (sorted_srtP zs) (fun z => mem_srtP) (by omega)).with hp
theorem lcm_step {b d D : Int} (hb : 0 < b) (hd : 0 < d) (hD : 0 < D) (h1 : b ∣ D) (h2 : d ∣ D) : 0 < b / ((Nat.gcd b.natAbs d.natAbs : Nat) : Int) * d ∧ b ∣ b / ((Nat.gcd b.natAbs d.natAbs : Nat) : Int) * d ∧ d ∣ b / ((Nat.gcd b.natAbs d.natAbs : Nat) : Int) * d ∧ b / ((Nat.gcd b.natAbs d.natAbs : Nat) : Int) * d ∣ D := by
  obtain ⟨m, rfl⟩ : ∃ m : Nat, b = (m : Int) := ⟨b.natAbs, by omega⟩
  obtain ⟨n, rfl⟩ : ∃ n : Nat, d = (n : Int) := ⟨d.natAbs, by omega⟩
  obtain ⟨e, rfl⟩ : ∃ e : Nat, D = (e : Int) := ⟨D.natAbs, by omega⟩
  rw [Int.natAbs_natCast, Int.natAbs_natCast]
  have g0 : 0 < Nat.gcd m n := Nat.gcd_pos_of_pos_left _ (by omega)
  have el : m / Nat.gcd m n * n = Nat.lcm m n := by
    unfold Nat.lcm
    rw [Nat.mul_comm m n, Nat.mul_div_assoc _ (Nat.gcd_dvd_left m n), Nat.mul_comm]
  have ec : (m : Int) / ((Nat.gcd m n : Nat) : Int) * (n : Int) = ((Nat.lcm m n : Nat) : Int) := by
    rw [← el]
    push_cast
    rfl
  rw [ec]
  refine ⟨?_, Int.natCast_dvd_natCast.mpr (Nat.dvd_lcm_left m n), Int.natCast_dvd_natCast.mpr (Nat.dvd_lcm_right m n), Int.natCast_dvd_natCast.mpr (Nat.lcm_dvd (Int.natCast_dvd_natCast.mp h1) (Int.natCast_dvd_natCast.mp h2))⟩
  have := Nat.lcm_pos (m := m) (n := n) (by omega) (by omega)
  omega
theorem corners_two {zs : List Ip} {a b : Ip} (h : srtP zs = [a, b]) : cornersI zs = [a, b] := by
  unfold cornersI
  rw [h, if_neg (by show ¬ 2 = 1; decide)]
  rfl
def keyP (p : Pt) : NestedKey := .tup [.tup [.num p.1.num, .num (p.1.den : Int)], .tup [.num p.2.num, .num (p.2.den : Int)]]
theorem keyD_pt (p : Pt) : keyD (pt p) = some (keyP p) := by
  show keyD (.tup [.tup [.int p.1.num, .int (p.1.den : Int)], .tup [.int p.2.num, .int (p.2.den : Int)]]) = _
  simp [keyD, keysD, keyP]
theorem keyP_dep (p : Pt) : (keyP p).depth ≤ 8 := by simp [keyP, NestedKey.depth, NestedKey.depthAll]
theorem keyP_inj {p q : Pt} (h : keyP p = keyP q) : p = q := by
  unfold keyP at h
  injection h with h
  injection h with h1 h2
  injection h2 with h2 _
  injection h1 with h1
  injection h2 with h2
  injection h1 with a1 a2
  injection h2 with b1 b2
  injection a2 with a2 _
  injection b2 with b2 _
  injection a1 with a1
  injection a2 with a2
  injection b1 with b1
  injection b2 with b2
  exact Prod.ext (Rat.ext a1 (by omega)) (Rat.ext b1 (by omega))
theorem lkD_put (kvs : List (NestedKey × D)) (k j : NestedKey) (d : D) : lkD (putD kvs k d) j = if j = k then some d else lkD kvs j := by
  have mp : ∀ l : List (NestedKey × D), lkD (l.map fun q => if q.1 = k then (q.1, d) else q) j = if j = k then (lkD l j).map (fun _ => d) else lkD l j := by
    intro l
    induction l with
    | nil => unfold lkD; split <;> rfl
    | cons q r ih =>
      unfold lkD at ih ⊢
      rw [List.map_cons]
      have hf : (if q.1 = k then (q.1, d) else q).1 = q.1 := by split <;> rfl
      by_cases g : q.1 = j
      · rw [List.find?_cons_of_pos (by rw [hf]; exact decide_eq_true g), List.find?_cons_of_pos (by exact decide_eq_true g)]
        by_cases e : j = k
        · rw [if_pos e, if_pos (by rw [g]; exact e)]; rfl
        · rw [if_neg e, if_neg (by rw [g]; exact e)]
      · rw [List.find?_cons_of_neg (by rw [hf]; simp [g]), List.find?_cons_of_neg (by simp [g])]
        exact ih
  have ap : ∀ l : List (NestedKey × D), lkD l k = none → lkD (l ++ [(k, d)]) j = if j = k then some d else lkD l j := by
    intro l
    induction l with
    | nil =>
      intro _
      unfold lkD
      by_cases e : j = k
      · rw [if_pos e, List.nil_append, List.find?_cons_of_pos (by exact decide_eq_true e.symm)]; rfl
      · rw [if_neg e, List.nil_append, List.find?_cons_of_neg (fun q => e (of_decide_eq_true q).symm)]
    | cons q r ih =>
      intro h
      unfold lkD at h ih ⊢
      have gk : ¬ q.1 = k := fun e => by rw [List.find?_cons_of_pos (by exact decide_eq_true e)] at h; cases h
      rw [List.find?_cons_of_neg (by simp [gk])] at h
      by_cases g : q.1 = j
      · rw [List.cons_append, List.find?_cons_of_pos (by exact decide_eq_true g), List.find?_cons_of_pos (by exact decide_eq_true g), if_neg (by rw [← g]; exact gk)]
      · rw [List.cons_append, List.find?_cons_of_neg (by simp [g]), List.find?_cons_of_neg (by simp [g])]
        exact ih h
  unfold putD
  cases e : lkD kvs k with
  | none => rw [if_neg (by decide)]; exact ap kvs e
  | some d0 =>
    rw [if_pos (by rfl), mp]
    by_cases g : j = k
    · rw [if_pos g, if_pos g, g, e]; rfl
    · rw [if_neg g, if_neg g]
def dicN (b : Int) (zs : List Ip) : Nat → List (NestedKey × D)
  | 0 => []
  | i + 1 => putD (dicN b zs i) (keyP (ptC b (gi zs i))) (ip (gi zs i))
theorem dicN_len (b : Int) (zs : List Ip) : ∀ i, (dicN b zs i).length ≤ i
  | 0 => Nat.le_refl _
  | i + 1 => Nat.le_trans (putD_len _ _ _) (Nat.succ_le_succ (dicN_len b zs i))
theorem dicN_get {b : Int} (hb : b ≠ 0) (zs : List Ip) : ∀ i j, j < i → lkD (dicN b zs i) (keyP (ptC b (gi zs j))) = some (ip (gi zs j))
  | 0, j, h => absurd h (by omega)
  | i + 1, j, h => by
    show lkD (putD _ _ _) _ = _
    rw [lkD_put]
    by_cases e : keyP (ptC b (gi zs j)) = keyP (ptC b (gi zs i))
    · rw [if_pos e, (ptC_inj hb).mp (keyP_inj e)]
    · rw [if_neg e]
      exact dicN_get hb zs i j (by
        have : j ≠ i := fun q => e (by rw [q])
        omega)
theorem dicN_mem {b : Int} (hb : b ≠ 0) {zs : List Ip} {z : Ip} (h : z ∈ zs) : lkD (dicN b zs zs.length) (keyP (ptC b z)) = some (ip z) := by
  obtain ⟨i, hi, e⟩ := List.getElem_of_mem h
  have g : gi zs i = z := by unfold gi; rw [List.getD_eq_getElem?_getD, List.getElem?_eq_getElem hi]; exact e
  rw [← g]
  exact dicN_get hb zs zs.length i hi
theorem corners_ne {zs : List Ip} (h : 0 < zs.length) : 0 < (cornersI zs).length := by
  have hm : gi zs 0 ∈ srtP zs := mem_srtP.mpr (gi_mem h)
  have hs := List.length_pos_of_mem hm
  unfold cornersI
  split
  · exact hs
  · have hu := hu_of (sorted_srtP zs) (fun z => mem_srtP (zs := zs)) (by omega)
    have := hu.len
    have := hu.n2
    omega
theorem corners_once {zs : List Ip} {i j : Nat} (hi : i < (cornersI zs).length) (hj : j < (cornersI zs).length) (e : gi (cornersI zs) i = gi (cornersI zs) j) : i = j := by
  unfold cornersI at hi hj e
  by_cases h : (srtP zs).length = 1
  · rw [if_pos h] at hi hj
    omega
  · rw [if_neg h] at hi hj e
    have hs : 0 < (srtP zs).length := by
      refine Classical.byContradiction fun hn => ?_
      have e0 : srtP zs = [] := List.length_eq_zero_iff.mp (by omega)
      rw [e0] at hi
      exact absurd hi (Nat.not_lt_zero i)
    exact (hu_of (sorted_srtP zs) (fun z => mem_srtP (zs := zs)) (by omega)).once hi hj e
theorem corners_turn {zs : List Ip} (h3 : 3 ≤ (cornersI zs).length) {k : Nat} (hk : k < (cornersI zs).length) : 0 < crI (gi (cornersI zs) (prv (cornersI zs).length (prv (cornersI zs).length k))) (gi (cornersI zs) (prv (cornersI zs).length k)) (gi (cornersI zs) k) := by
  unfold cornersI at h3 hk ⊢
  split at h3
  · omega
  · rename_i h
    rw [if_neg h] at hk ⊢
    have hs : 0 < (srtP zs).length := by
      refine Classical.byContradiction fun hn => ?_
      have e0 : srtP zs = [] := List.length_eq_zero_iff.mp (by omega)
      rw [e0] at hk
      exact absurd hk (Nat.not_lt_zero k)
    exact (hu_of (sorted_srtP zs) (fun z => mem_srtP (zs := zs)) (by omega)).turns h3 hk
theorem at_isNone {X : Cx} {ρ : Ro} {A : AH} {a : Expr} {pos p2 : Pos} {j : Nat} {ds : List D} (ha : AV X a ρ A (.fz ds)) : AT X (.Compare a [.Is] [.Constant .none j p2] pos) ρ A false :=
  at_cmp (y := .non) op_isN (nomark _) ha av_non fun v u H r1 r2 l Q q => by
    obtain ⟨c, o, vs, rfl, h1, h2⟩ := r1.fz_of
    exact ⟨r2.non_of, q H (TS.refl H) l⟩
theorem atPrv2 {cs : List Ip} {i : Nat} (h3 : 3 ≤ cs.length) (h : i < cs.length) : atI (cs.map ip) ((i : Int) - 2) = some (ip (gi cs (prv cs.length (prv cs.length i)))) := by
  unfold prv
  by_cases h0 : i = 0
  · subst h0
    rw [if_pos rfl, if_neg (by omega), show cs.length - 1 - 1 = cs.length - 2 by omega]
    unfold atI
    have e' : ixN (cs.map ip).length (((0 : Nat) : Int) - 2) = some (cs.length - 2) := by
      rw [List.length_map]
      unfold ixN
      rw [if_neg (by omega), if_pos (by omega)]
      congr 1
      omega
    rw [e']
    show (cs.map ip)[cs.length - 2]? = _
    unfold gi
    rw [List.getElem?_map, List.getD_eq_getElem?_getD, List.getElem?_eq_getElem (show cs.length - 2 < cs.length by omega)]
    rfl
  · rw [if_neg h0]
    by_cases h1 : i = 1
    · subst h1
      rw [if_pos (by rfl)]
      exact atM1 (f := ip) ((0, 0) : Ip) (show cs.length = cs.length - 1 + 1 by omega)
    · rw [if_neg (by omega)]
      have := atG (f := ip) ((0, 0) : Ip) (show 0 ≤ (i : Int) - 2 by omega) (show (i : Int) - 2 < (cs.length : Nat) by omega)
      rw [show ((i : Int) - 2).toNat = i - 1 - 1 by omega] at this
      exact this
theorem corners_same {xs ys : List Ip} (h : ∀ z, z ∈ xs ↔ z ∈ ys) : cornersI xs = cornersI ys := by
  have e : srtP xs = srtP ys := srt_one (sorted_srtP xs) (sorted_srtP ys) fun z => by rw [mem_srtP, mem_srtP]; exact h z
  unfold cornersI
  rw [e]
theorem corner0 (x : Ip) (xs : List Ip) : gi (cornersI (x :: xs)) 0 = minP x xs := by
  have hm : ∀ {p q : Ip}, p ∈ x :: xs → (∀ y ∈ x :: xs, y = p ∨ ltP p y = true) → p = minP x xs := fun {p q} hp hle => by
    obtain ⟨h1, h2⟩ := minP_ok xs x
    rcases hle _ h1 with e | e
    · exact e.symm
    · have := h2 p hp
      rw [e] at this
      cases this
  have hs : 0 < (srtP (x :: xs)).length := List.length_pos_of_mem (mem_srtP.mpr List.mem_cons_self)
  unfold cornersI
  split
  · rename_i e
    obtain ⟨z, ez⟩ : ∃ z, srtP (x :: xs) = [z] := by match srtP (x :: xs), e with | [z], _ => exact ⟨z, rfl⟩
    rw [ez]
    show z = _
    refine hm (q := z) (mem_srtP.mp (by rw [ez]; simp)) fun y hy => .inl ?_
    have := mem_srtP.mpr hy
    rw [ez] at this
    exact List.mem_singleton.mp this
  · have hu := hu_of (sorted_srtP (x :: xs)) (fun z => mem_srtP (zs := x :: xs)) (by omega)
    have n2 := hu.n2
    rw [hu.gl (by omega)]
    exact hm (q := x) (hu.l.sub _ (gi_mem (by omega))) hu.l.lo
/-! ### a way ahead of all, or parts that come to nought -/
def dtI (a b : Ip) : Int := a.1 * b.1 + a.2 * b.2
def Ah2 (a b w : Ip) : Prop := (0 < cv a b ∧ w = (0 - (a.2 - b.2), 0 - (b.1 - a.1))) ∨ (cv a b < 0 ∧ w = (a.2 - b.2, b.1 - a.1)) ∨ (cv a b = 0 ∧ 0 < dtI a b ∧ w = a)
def AhW (cs : List Ip) (w : Ip) : Prop := (cs.length = 1 ∧ gi cs 0 ≠ (0, 0) ∧ w = gi cs 0) ∨ (cs.length = 2 ∧ Ah2 (gi cs 0) (gi cs 1) w) ∨
  (3 ≤ cs.length ∧ ∃ k, k < cs.length ∧ cv (gi cs (prv cs.length k)) (gi cs k) < 0 ∧ w = ((gi cs (prv cs.length k)).2 - (gi cs k).2, (gi cs k).1 - (gi cs (prv cs.length k)).1))
def AhN (cs : List Ip) : Prop := (cs.length = 1 ∧ gi cs 0 = (0, 0)) ∨ (cs.length = 2 ∧ cv (gi cs 0) (gi cs 1) = 0 ∧ ¬ 0 < dtI (gi cs 0) (gi cs 1)) ∨
  (3 ≤ cs.length ∧ ∀ k, k < cs.length → 0 ≤ cv (gi cs (prv cs.length k)) (gi cs k))
theorem sq_nn (x : Int) : 0 ≤ x * x := by
  rcases Int.le_total 0 x with h | h
  · exact Int.mul_nonneg h h
  · have := Int.mul_nonneg (show 0 ≤ -x by omega) (show 0 ≤ -x by omega)
    rw [Int.neg_mul_neg] at this; exact this
theorem dt_self {a : Ip} (h : a ≠ (0, 0)) : 0 < dtI a a := by
  unfold dtI
  have h1 := sq_nn a.1
  have h2 := sq_nn a.2
  refine Classical.byContradiction fun hn => h ?_
  have e1 : a.1 * a.1 = 0 := by omega
  have e2 : a.2 * a.2 = 0 := by omega
  exact Prod.ext ((Int.mul_eq_zero.mp e1).elim id id) ((Int.mul_eq_zero.mp e2).elim id id)
theorem cv_self (a : Ip) : cv a a = 0 := by unfold cv; grind
/-- lagrange -/
theorem dt_cv (a b : Ip) : dtI a a * dtI b b = dtI a b * dtI a b + cv a b * cv a b := by unfold dtI cv; grind
theorem mul_sgn {x y s : Int} (hxy : 0 < x * y) (h : (x ≤ s ∧ s ≤ y) ∨ (y ≤ s ∧ s ≤ x)) : 0 < x * s := by
  rcases Int.lt_trichotomy x 0 with hx | hx | hx
  · have hy : y < 0 := by
      refine Classical.byContradiction fun hn => ?_
      have := Int.mul_nonneg (show 0 ≤ -x by omega) (show 0 ≤ y by omega)
      rw [Int.neg_mul] at this; omega
    have hs : s < 0 := by omega
    have := Int.mul_pos (show 0 < -x by omega) (show 0 < -s by omega)
    rw [Int.neg_mul_neg] at this; exact this
  · rw [hx] at hxy; simp at hxy
  · have hy : 0 < y := by
      refine Classical.byContradiction fun hn => ?_
      have := Int.mul_nonneg (show 0 ≤ x by omega) (show 0 ≤ -y by omega)
      rw [Int.mul_neg] at this; omega
    exact Int.mul_pos hx (by omega)
theorem btw_or {a b p : Int} (h : btwI a b p = true) : (a ≤ p ∧ p ≤ b) ∨ (b ≤ p ∧ p ≤ a) := by
  unfold btwI at h
  rw [Bool.and_eq_true, decide_eq_true_eq, decide_eq_true_eq] at h
  split at h <;> split at h <;> omega
theorem ahead_pos {S : List Ip} {w : Ip} (h : AhW (cornersI S) w) : ∀ s ∈ S, 0 < dtI w s := by
  intro s hs
  have hw := within_all hs
  unfold withI at hw
  rcases h with ⟨h1, h2, rfl⟩ | ⟨h1, h2⟩ | ⟨h1, k, hk, h2, rfl⟩
  · rw [if_pos h1] at hw
    rw [of_decide_eq_true hw]
    exact dt_self h2
  · rw [if_neg (by omega), if_pos h1, Bool.and_eq_true, Bool.and_eq_true, decide_eq_true_eq] at hw
    obtain ⟨⟨b1, b2⟩, c0⟩ := hw
    generalize gi (cornersI S) 0 = a at *
    generalize gi (cornersI S) 1 = b at *
    rcases h2 with ⟨g, rfl⟩ | ⟨g, rfl⟩ | ⟨g, g2, hwa⟩
    · unfold crI at c0
      unfold cv at g
      unfold dtI
      show 0 < (0 - (a.2 - b.2)) * s.1 + (0 - (b.1 - a.1)) * s.2
      grind
    · unfold crI at c0
      unfold cv at g
      unfold dtI
      show 0 < (a.2 - b.2) * s.1 + (b.1 - a.1) * s.2
      grind
    · rw [hwa]
      have e := dt_cv a b
      rw [g] at e
      have ha : a ≠ (0, 0) := fun h0 => by rw [h0] at g2; unfold dtI at g2; simp at g2
      have p1 := dt_self ha
      have k1 : dtI a a * b.1 = dtI a b * a.1 := by unfold dtI; unfold cv at g; grind
      have k2 : dtI a a * b.2 = dtI a b * a.2 := by unfold dtI; unfold cv at g; grind
      have q1 : ∀ x y : Int, dtI a a * y = dtI a b * x → x ≠ 0 → 0 < x * y := fun x y hxy hx => by
        have h3 : 0 < x * x := by
          have := sq_nn x
          rcases Int.lt_or_eq_of_le this with h | h
          · exact h
          · exact absurd ((Int.mul_eq_zero.mp h.symm).elim id id) hx
        have h4 : 0 < dtI a a * (x * y) := by
          rw [show dtI a a * (x * y) = x * (dtI a a * y) by grind, hxy, show x * (dtI a b * x) = dtI a b * (x * x) by grind]
          exact Int.mul_pos g2 h3
        exact pos_of_mul p1 h4
      have c1 : a.1 ≠ 0 → 0 < a.1 * s.1 := fun h0 => mul_sgn (q1 _ _ k1 h0) (btw_or b1)
      have c2 : a.2 ≠ 0 → 0 < a.2 * s.2 := fun h0 => mul_sgn (q1 _ _ k2 h0) (btw_or b2)
      unfold dtI
      by_cases z1 : a.1 = 0
      · have z2 : a.2 ≠ 0 := fun z2 => ha (Prod.ext z1 z2)
        have := c2 z2
        rw [z1]; omega
      · have h5 := c1 z1
        by_cases z2 : a.2 = 0
        · rw [z2]; omega
        · have := c2 z2; omega
  · rw [if_neg (by omega), if_neg (by omega)] at hw
    have hw := of_decide_eq_true (List.all_eq_true.mp hw k (List.mem_range.mpr hk))
    generalize gi (cornersI S) (prv (cornersI S).length k) = a at *
    generalize gi (cornersI S) k = b at *
    unfold crI at hw
    unfold cv at h2
    unfold dtI
    show 0 < (a.2 - b.2) * s.1 + (b.1 - a.1) * s.2
    grind
/-! parts -/
def pSum (ps : List (Ip × Int)) : Int := (ps.map (·.2)).sum
def pX (ps : List (Ip × Int)) : Int := (ps.map fun q => q.2 * q.1.1).sum
def pY (ps : List (Ip × Int)) : Int := (ps.map fun q => q.2 * q.1.2).sum
structure PartsOk (cs : List Ip) (ps : List (Ip × Int)) : Prop where
  mem : ∀ q ∈ ps, q.1 ∈ cs
  nn : ∀ q ∈ ps, 0 ≤ q.2
  pos : 0 < pSum ps
  x : pX ps = 0
  y : pY ps = 0
  few : ps.length ≤ 3
def abI (x : Int) : Int := if x < 0 then -x else x
theorem abI_nn (x : Int) : 0 ≤ abI x := by unfold abI; split <;> omega
theorem abI_eq (x : Int) : abI x = (x.natAbs : Int) := by unfold abI; split <;> omega
def parts2 (a b : Ip) : List (Ip × Int) := [(a, abI b.1 + abI b.2), (b, abI a.1 + abI a.2)]
theorem abI_mul (x y : Int) : abI x * abI y = abI (x * y) := by rw [abI_eq, abI_eq, abI_eq, Int.natAbs_mul]; push_cast; rfl
theorem opp {x y : Int} (h : x * y ≤ 0) : abI y * x + abI x * y = 0 := by
  rcases Int.lt_trichotomy x 0 with hx | hx | hx
  · have hy : 0 ≤ y := by
      refine Classical.byContradiction fun hn => ?_
      have := Int.mul_pos (show 0 < -x by omega) (show 0 < -y by omega)
      rw [Int.neg_mul_neg] at this; omega
    have e1 : abI x = -x := by unfold abI; rw [if_pos hx]
    have e2 : abI y = y := by unfold abI; rw [if_neg (by omega)]
    rw [e1, e2]; grind
  · rw [hx]
    have e1 : abI 0 = 0 := by decide
    rw [e1]; simp
  · have hy : y ≤ 0 := by
      refine Classical.byContradiction fun hn => ?_
      have := Int.mul_pos hx (show 0 < y by omega)
      omega
    have e1 : abI x = x := by unfold abI; rw [if_neg (by omega)]
    have e2 : abI y = -y := by unfold abI; split <;> omega
    rw [e1, e2]; grind
theorem opp2 {x y u v : Int} (h : x * v = y * u) (h1 : x * u ≤ 0) (h2 : y * v ≤ 0) (h0 : x = 0 → y = 0 → False) : abI v * x + abI y * u = 0 := by
  have a1 : abI v * abI x = abI y * abI u := by rw [abI_mul, abI_mul, Int.mul_comm v x, h]
  by_cases hx : x = 0
  · have hy : y ≠ 0 := fun hy => h0 hx hy
    have hu : u = 0 := by
      rw [hx, Int.zero_mul] at h
      rcases Int.mul_eq_zero.mp h.symm with h | h
      · exact absurd h hy
      · exact h
    rw [hx, hu]; simp
  · rcases Int.lt_or_lt_of_ne hx with hx | hx
    · have hu : 0 ≤ u := by
        refine Classical.byContradiction fun hn => ?_
        have := Int.mul_pos (show 0 < -x by omega) (show 0 < -u by omega)
        rw [Int.neg_mul_neg] at this; omega
      have e1 : abI x = -x := by unfold abI; rw [if_pos hx]
      have e2 : abI u = u := by unfold abI; rw [if_neg (by omega)]
      rw [e1, e2] at a1; grind
    · have hu : u ≤ 0 := by
        refine Classical.byContradiction fun hn => ?_
        have := Int.mul_pos hx (show 0 < u by omega)
        omega
      have e1 : abI x = x := by unfold abI; rw [if_neg (by omega)]
      have e2 : abI u = -u := by unfold abI; split <;> omega
      rw [e1, e2] at a1; grind
theorem parts2_ok {a b : Ip} (hab : a ≠ b) (h1 : cv a b = 0) (h2 : ¬ 0 < dtI a b) : PartsOk [a, b] (parts2 a b) := by
  have n1 := abI_nn a.1
  have n2 := abI_nn a.2
  have n3 := abI_nn b.1
  have n4 := abI_nn b.2
  have ab0 : ∀ x : Int, abI x = 0 → x = 0 := fun x h => by rw [abI_eq] at h; omega
  have hz : ∀ p : Ip, abI p.1 + abI p.2 = 0 → p = (0, 0) := fun p h => Prod.ext (ab0 _ (by have := abI_nn p.1; have := abI_nn p.2; omega)) (ab0 _ (by have := abI_nn p.1; have := abI_nn p.2; omega))
  have sums : (abI b.1 + abI b.2) * a.1 + (abI a.1 + abI a.2) * b.1 = 0 ∧ (abI b.1 + abI b.2) * a.2 + (abI a.1 + abI a.2) * b.2 = 0 := by
    by_cases ha : a = (0, 0)
    · have z1 : a.1 = 0 := by rw [ha]
      have z2 : a.2 = 0 := by rw [ha]
      have e : abI 0 = 0 := by decide
      rw [z1, z2, e]; simp
    · have p1 := dt_self ha
      have k1 : dtI a a * b.1 = dtI a b * a.1 := by unfold dtI; unfold cv at h1; grind
      have k2 : dtI a a * b.2 = dtI a b * a.2 := by unfold dtI; unfold cv at h1; grind
      have q : ∀ x y : Int, dtI a a * y = dtI a b * x → x * y ≤ 0 := fun x y hxy => by
        refine Classical.byContradiction fun hn => ?_
        have h4 : 0 < dtI a a * (x * y) := Int.mul_pos p1 (by omega)
        rw [show dtI a a * (x * y) = x * (dtI a a * y) by grind, hxy, show x * (dtI a b * x) = dtI a b * (x * x) by grind] at h4
        have := Int.mul_nonneg (show 0 ≤ -(dtI a b) by omega) (sq_nn x)
        rw [Int.neg_mul] at this; omega
      have o1 := q _ _ k1
      have o2 := q _ _ k2
      have r1 := opp o1
      have r2 := opp o2
      have hc : a.1 * b.2 = a.2 * b.1 := by unfold cv at h1; omega
      have r3 := opp2 hc o1 o2 (fun x y => ha (Prod.ext x y))
      have r4 := opp2 hc.symm o2 o1 (fun x y => ha (Prod.ext y x))
      constructor <;> grind
  refine ⟨fun q hq => ?_, fun q hq => ?_, ?_, ?_, ?_, Nat.le_of_ble_eq_true rfl⟩
  · unfold parts2 at hq
    simp only [List.mem_cons, List.not_mem_nil, or_false] at hq ⊢
    rcases hq with rfl | rfl
    · exact .inl rfl
    · exact .inr rfl
  · unfold parts2 at hq
    simp only [List.mem_cons, List.not_mem_nil, or_false] at hq
    rcases hq with rfl | rfl
    · show 0 ≤ abI b.1 + abI b.2; omega
    · show 0 ≤ abI a.1 + abI a.2; omega
  · show 0 < (abI b.1 + abI b.2) + ((abI a.1 + abI a.2) + 0)
    refine Classical.byContradiction fun hn => hab ?_
    rw [hz a (by omega), hz b (by omega)]
  · show (abI b.1 + abI b.2) * a.1 + ((abI a.1 + abI a.2) * b.1 + 0) = 0
    have := sums.1; omega
  · show (abI b.1 + abI b.2) * a.2 + ((abI a.1 + abI a.2) * b.2 + 0) = 0
    have := sums.2; omega
def parts3 (f a b : Ip) : List (Ip × Int) := [(f, cv a b), (a, cv b f), (b, cv f a)]
theorem parts3_ok {cs : List Ip} {f a b : Ip} (hf : f ∈ cs) (ha : a ∈ cs) (hb : b ∈ cs) (h1 : 0 ≤ cv a b) (h2 : 0 ≤ cv b f) (h3 : 0 ≤ cv f a) (h : 0 < crI f a b) : PartsOk cs (parts3 f a b) := by
  refine ⟨fun q hq => ?_, fun q hq => ?_, ?_, ?_, ?_, Nat.le_of_ble_eq_true rfl⟩
  · unfold parts3 at hq
    simp only [List.mem_cons, List.not_mem_nil, or_false] at hq
    rcases hq with rfl | rfl | rfl <;> assumption
  · unfold parts3 at hq
    simp only [List.mem_cons, List.not_mem_nil, or_false] at hq
    rcases hq with rfl | rfl | rfl <;> assumption
  · show 0 < cv a b + (cv b f + (cv f a + 0))
    unfold crI at h; unfold cv; grind
  · show cv a b * f.1 + (cv b f * a.1 + (cv f a * b.1 + 0)) = 0
    unfold cv; grind
  · show cv a b * f.2 + (cv b f * a.2 + (cv f a * b.2 + 0)) = 0
    unfold cv; grind
theorem prv_succ (n k : Nat) : prv n (k + 1) = k := by unfold prv; rw [if_neg (by omega)]; omega
theorem fin4 {x y p q r s : Int} (hx : 0 < x) (hy : 0 < y) (e1 : x * q = y * p) (e2 : x * s = y * r) (hp : 0 ≤ p) (hs : 0 ≤ s) (h1 : q < p) (h2 : r < s) : False := by
  have a1 : x * q < x * p := Int.mul_lt_mul_of_pos_left h1 hx
  have a2 : x * r < x * s := Int.mul_lt_mul_of_pos_left h2 hx
  rw [e1] at a1
  rw [e2] at a2
  have hxy : y < x := by
    refine Classical.byContradiction fun hn => ?_
    have := Int.mul_le_mul_of_nonneg_right (show x ≤ y by omega) hp
    omega
  have hr : r < 0 := by
    refine Classical.byContradiction fun hn => ?_
    have := Int.mul_le_mul_of_nonneg_right (show y ≤ x by omega) (show 0 ≤ r by omega)
    omega
  have h5 : 0 ≤ x * s := Int.mul_nonneg (by omega) hs
  have h6 := Int.mul_pos hy (show 0 < -r by omega)
  rw [Int.mul_neg] at h6
  omega
theorem flat4 {a b c d : Ip} (lb : lp b) (lc : lp c) (hz : cv b c = 0) (ea : 0 ≤ cv a b) (ed : 0 ≤ cv c d) (q1 : cv a c < cv a b) (q2 : cv b d < cv c d) : False := by
  have hz' : b.1 * c.2 = b.2 * c.1 := by unfold cv at hz; omega
  rcases lb with hb | ⟨hb, hb2⟩
  · have hc : 0 < c.1 := by
      rcases lc with h | ⟨h, h2⟩
      · exact h
      · rw [h, Int.mul_zero] at hz'
        have := Int.mul_pos hb h2
        omega
    exact fin4 hb hc (by unfold cv; grind) (by unfold cv; grind) ea ed q1 q2
  · have hc1 : c.1 = 0 := by
      rw [hb, Int.zero_mul] at hz'
      rcases Int.mul_eq_zero.mp hz'.symm with h | h
      · omega
      · exact h
    have hc : 0 < c.2 := by
      rcases lc with h | ⟨h, h2⟩
      · omega
      · exact h2
    exact fin4 hb2 hc (by unfold cv; rw [hb, hc1]; grind) (by unfold cv; rw [hb, hc1]; grind) ea ed q1 q2
/-- no side of the fan is flat -/
theorem fan_pos {S : List Ip} (h3 : 3 ≤ (cornersI S).length) {k : Nat} (h1 : 1 ≤ k) (hk : k + 1 < (cornersI S).length) : 0 < crI (gi (cornersI S) 0) (gi (cornersI S) k) (gi (cornersI S) (k + 1)) := by
  obtain ⟨n, hn⟩ : ∃ n, n = (cornersI S).length := ⟨_, rfl⟩
  have edge : ∀ j, j < n → ∀ i, i < n → 0 ≤ crI (gi (cornersI S) (prv n j)) (gi (cornersI S) j) (gi (cornersI S) i) := fun j hj i hi => by
    have hw := within_all (cornersI_mem (zs := S) (gi_mem (show i < (cornersI S).length by omega)))
    unfold withI at hw
    rw [if_neg (by omega), if_neg (by omega)] at hw
    rw [hn]
    exact of_decide_eq_true (List.all_eq_true.mp hw j (List.mem_range.mpr (by omega)))
  have turn : ∀ j, j < n → 0 < crI (gi (cornersI S) (prv n (prv n j))) (gi (cornersI S) (prv n j)) (gi (cornersI S) j) := fun j hj => by rw [hn]; exact corners_turn h3 (by omega)
  obtain ⟨x, xs, ex⟩ : ∃ x xs, S = x :: xs := by
    cases S with
    | nil => exact absurd h3 (by decide)
    | cons x xs => exact ⟨x, xs, rfl⟩
  have lpos : ∀ j, 1 ≤ j → j < n → lp (sb (gi (cornersI S) j) (gi (cornersI S) 0)) := fun j hj1 hj => by
    refine lt_lp (tri (fun e => ?_) fun hl => ?_)
    · have := corners_once (by omega) (by omega) e
      omega
    · have h0 := corner0 x xs
      rw [← ex] at h0
      have hm : gi (cornersI S) j ∈ x :: xs := by rw [← ex]; exact cornersI_mem (gi_mem (by omega))
      have := (minP_ok xs x).2 _ hm
      rw [← h0, hl] at this
      cases this
  rw [← hn] at hk
  have e0 := edge (k + 1) hk 0 (by omega)
  rw [prv_succ, ← crI_rot] at e0
  refine Classical.byContradiction fun hneg => ?_
  have hz : crI (gi (cornersI S) 0) (gi (cornersI S) k) (gi (cornersI S) (k + 1)) = 0 := by omega
  obtain ⟨m, rfl⟩ : ∃ m, k = m + 1 := ⟨k - 1, by omega⟩
  have lb := lpos (m + 1) (by omega) (by omega)
  have lc := lpos (m + 1 + 1) (by omega) hk
  have t1 := turn (m + 1 + 1) hk
  rw [prv_succ, prv_succ] at t1
  by_cases hm : m = 0
  · subst hm
    exact absurd t1 (by rw [hz]; decide)
  have ea := edge (m + 1) (by omega) 0 (by omega)
  rw [prv_succ, ← crI_rot] at ea
  have t2 : 0 < crI (gi (cornersI S) (m + 1)) (gi (cornersI S) (m + 1 + 1)) (gi (cornersI S) (if m + 1 + 1 + 1 < n then m + 1 + 1 + 1 else 0)) := by
    by_cases hl : m + 1 + 1 + 1 < n
    · have := turn (m + 1 + 1 + 1) hl
      rw [prv_succ, prv_succ] at this
      rw [if_pos hl]; exact this
    · have := turn 0 (by omega)
      have e1 : prv n 0 = m + 1 + 1 := by unfold prv; rw [if_pos rfl]; omega
      rw [e1, prv_succ] at this
      rw [if_neg hl]; exact this
  by_cases hl : m + 1 + 1 + 1 < n
  · rw [if_pos hl] at t2
    have ed := edge (m + 1 + 1 + 1) hl 0 (by omega)
    rw [prv_succ, ← crI_rot] at ed
    generalize gi (cornersI S) 0 = o at *
    generalize gi (cornersI S) m = a at *
    generalize gi (cornersI S) (m + 1) = b at *
    generalize gi (cornersI S) (m + 1 + 1) = c at *
    generalize gi (cornersI S) (m + 1 + 1 + 1) = d at *
    rw [crI_cv] at hz ea ed
    have q1 : 0 < cv (sb a o) (sb b o) - cv (sb a o) (sb c o) + cv (sb b o) (sb c o) := by
      have e : crI a b c = cv (sb a o) (sb b o) - cv (sb a o) (sb c o) + cv (sb b o) (sb c o) := by unfold crI cv sb; grind
      rw [← e]; exact t1
    have q2 : 0 < cv (sb b o) (sb c o) - cv (sb b o) (sb d o) + cv (sb c o) (sb d o) := by
      have e : crI b c d = cv (sb b o) (sb c o) - cv (sb b o) (sb d o) + cv (sb c o) (sb d o) := by unfold crI cv sb; grind
      rw [← e]; exact t2
    generalize sb a o = a at *
    generalize sb b o = b at *
    generalize sb c o = c at *
    generalize sb d o = d at *
    rw [hz] at q1 q2
    exact flat4 lb lc hz ea ed (by omega) (by omega)
  · rw [if_neg hl, ← crI_rot, hz] at t2
    exact absurd t2 (by decide)
/-- there is a triangle of the fan in which nought lies -/
theorem fan_find {S : List Ip} (h3 : 3 ≤ (cornersI S).length) (h : ∀ k, k < (cornersI S).length → 0 ≤ cv (gi (cornersI S) (prv (cornersI S).length k)) (gi (cornersI S) k)) :
    ∃ k, 1 ≤ k ∧ k + 1 < (cornersI S).length ∧ 0 ≤ cv (gi (cornersI S) k) (gi (cornersI S) (k + 1)) ∧ 0 ≤ cv (gi (cornersI S) (k + 1)) (gi (cornersI S) 0) ∧ 0 ≤ cv (gi (cornersI S) 0) (gi (cornersI S) k) := by
  obtain ⟨n, hn⟩ : ∃ n, n = (cornersI S).length := ⟨_, rfl⟩
  rw [← hn] at h3 h ⊢
  have f1 : 0 ≤ cv (gi (cornersI S) 0) (gi (cornersI S) 1) := by have := h 1 (by omega); rw [prv_succ] at this; exact this
  have fl : 0 ≤ cv (gi (cornersI S) (n - 1)) (gi (cornersI S) 0) := by have := h 0 (by omega); unfold prv at this; rw [if_pos rfl] at this; exact this
  have key : ∀ j, 1 ≤ j → j < n → (∃ k, 1 ≤ k ∧ k + 1 < n ∧ 0 ≤ cv (gi (cornersI S) (k + 1)) (gi (cornersI S) 0) ∧ 0 ≤ cv (gi (cornersI S) 0) (gi (cornersI S) k)) ∨ 0 ≤ cv (gi (cornersI S) 0) (gi (cornersI S) j) := by
    intro j
    induction j with
    | zero => intro hj; omega
    | succ j ih =>
      intro hj1 hj
      by_cases h0 : j = 0
      · subst h0; exact .inr f1
      · rcases ih (by omega) (by omega) with h5 | h5
        · exact .inl h5
        · by_cases h6 : 0 ≤ cv (gi (cornersI S) (j + 1)) (gi (cornersI S) 0)
          · exact .inl ⟨j, by omega, hj, h6, h5⟩
          · rw [cv_neg] at h6
            exact .inr (by omega)
  have fin : ∃ k, 1 ≤ k ∧ k + 1 < n ∧ 0 ≤ cv (gi (cornersI S) (k + 1)) (gi (cornersI S) 0) ∧ 0 ≤ cv (gi (cornersI S) 0) (gi (cornersI S) k) := by
    rcases key (n - 2) (by omega) (by omega) with h5 | h5
    · exact h5
    · exact ⟨n - 2, by omega, by omega, by rw [show n - 2 + 1 = n - 1 by omega]; exact fl, h5⟩
  obtain ⟨k, k1, k2, k3, k4⟩ := fin
  refine ⟨k, k1, k2, ?_, k3, k4⟩
  have := h (k + 1) k2
  rw [prv_succ] at this
  exact this
/-! ### the steps, each with the places it comes from -/
def kvsS (st : List (Ip × Ip)) : List (NestedKey × D) := (st.map fun q => (q.1, ip q.2)).map fun q => (keyI q.1, q.2)
theorem kvsS_len (st : List (Ip × Ip)) : (kvsS st).length = st.length := by unfold kvsS; simp
theorem kvsS_snoc (st : List (Ip × Ip)) (s v : Ip) : kvsS (st ++ [(s, v)]) = kvsS st ++ [(keyI s, ip v)] := by unfold kvsS; simp
structure StP (xs ys : List Ip) (i j : Nat) (st : List (Ip × Ip)) : Prop where
  sub : ∀ q ∈ st, ∃ a b : Nat, a < xs.length ∧ b < ys.length ∧ q = (sb (gi ys b) (gi xs a), ((a : Int), (b : Int)))
  all : ∀ a b : Nat, b < ys.length → (a < i ∨ (a = i ∧ b < j)) → ∃ q ∈ st, q.1 = sb (gi ys b) (gi xs a)
  len : st.length ≤ i * ys.length + j
  nd : (st.map (·.1)).Nodup
theorem StP.zero (xs ys : List Ip) : StP xs ys 0 0 [] := ⟨(fun q h => nomatch h), (fun a b _ h => by omega), Nat.zero_le _, List.nodup_nil⟩
theorem StP.next {xs ys : List Ip} {i : Nat} {st : List (Ip × Ip)} (h : StP xs ys i ys.length st) : StP xs ys (i + 1) 0 st :=
  ⟨h.sub, fun a b hb hab => h.all a b hb (by omega), by have := h.len; rw [Nat.succ_mul]; omega, h.nd⟩
theorem StP.there {xs ys : List Ip} {i j : Nat} {st : List (Ip × Ip)} (h : StP xs ys i j st) (hm : ∃ q ∈ st, q.1 = sb (gi ys j) (gi xs i)) : StP xs ys i (j + 1) st :=
  ⟨h.sub, fun a b hb hab => by
    by_cases e : a = i ∧ b = j
    · rw [e.1, e.2]; exact hm
    · exact h.all a b hb (by omega), by have := h.len; omega, h.nd⟩
theorem StP.more {xs ys : List Ip} {i j : Nat} {st : List (Ip × Ip)} (h : StP xs ys i j st) (hi : i < xs.length) (hj : j < ys.length) (hnew : ∀ q ∈ st, q.1 ≠ sb (gi ys j) (gi xs i)) : StP xs ys i (j + 1) (st ++ [(sb (gi ys j) (gi xs i), ((i : Int), (j : Int)))]) :=
  ⟨fun q hq => by
    rcases List.mem_append.mp hq with hq | hq
    · exact h.sub q hq
    · exact ⟨i, j, hi, hj, List.mem_singleton.mp hq⟩, fun a b hb hab => by
    by_cases e : a = i ∧ b = j
    · rw [e.1, e.2]; exact ⟨_, List.mem_append_right _ (List.mem_singleton.mpr rfl), rfl⟩
    · obtain ⟨q, hq, e2⟩ := h.all a b hb (by omega)
      exact ⟨q, List.mem_append_left _ hq, e2⟩, by have := h.len; rw [List.length_append]; simp; omega, by
    rw [List.map_append]
    refine List.nodup_append.mpr ⟨h.nd, by simp, fun a ha b hb => ?_⟩
    obtain ⟨q, hq, rfl⟩ := List.mem_map.mp ha
    rw [List.mem_singleton.mp hb]
    exact hnew q hq⟩
theorem lk_none {st : List (Ip × Ip)} {s : Ip} (h : lkD (kvsS st) (keyI s) = none) : ∀ q ∈ st, q.1 ≠ s := by
  intro q hq e
  unfold lkD at h
  rw [Option.map_eq_none_iff, List.find?_eq_none] at h
  have := h (keyI q.1, ip q.2) (by unfold kvsS; rw [List.map_map]; exact List.mem_map.mpr ⟨q, hq, rfl⟩)
  rw [e] at this
  simp at this
theorem lk_some {st : List (Ip × Ip)} {s : Ip} {d : D} (h : lkD (kvsS st) (keyI s) = some d) : ∃ q ∈ st, q.1 = s ∧ d = ip q.2 := by
  unfold lkD at h
  rw [Option.map_eq_some_iff] at h
  obtain ⟨x, h1, h2⟩ := h
  have hm := List.mem_of_find?_eq_some h1
  have he := List.find?_some h1
  unfold kvsS at hm
  rw [List.map_map] at hm
  obtain ⟨q, hq, rfl⟩ := List.mem_map.mp hm
  exact ⟨q, hq, keyI_inj (of_decide_eq_true he), h2.symm⟩
theorem lk_there {st : List (Ip × Ip)} {s : Ip} (h : ∃ q ∈ st, q.1 = s) : ∃ q ∈ st, q.1 = s ∧ lkD (kvsS st) (keyI s) = some (ip q.2) := by
  cases e : lkD (kvsS st) (keyI s) with
  | none => obtain ⟨q, hq, e2⟩ := h; exact absurd e2 (lk_none e q hq)
  | some d =>
    obtain ⟨q, hq, e2, e3⟩ := lk_some e
    exact ⟨q, hq, e2, by rw [e3]⟩
theorem min3 {x y z : Int} : 0 ≤ minI [x, y, z] ↔ 0 ≤ x ∧ 0 ≤ y ∧ 0 ≤ z := by
  have h := minI_ok [x, y, z] (by simp)
  constructor
  · intro h0
    have h1 := h.2 x (by simp)
    have h2 := h.2 y (by simp)
    have h3 := h.2 z (by simp)
    omega
  · rintro ⟨h1, h2, h3⟩
    have := h.1
    simp only [List.mem_cons, List.not_mem_nil, or_false] at this
    omega
def ct_turn_of : Ct := fun ds A k _ => ∃ (a : Ip) (b : Ip) (m : Nat), ds = [ip a, ip b] ∧ ((a.1.natAbs < 2 ^ m ∧ a.2.natAbs < 2 ^ m)) ∧ ((b.1.natAbs < 2 ^ m ∧ b.2.natAbs < 2 ^ m)) ∧ (m ≤ 40000) ∧ k (.int (cv a b)) A
theorem ok_turn_of (T : Txt K mg) : Fn P w K mg base "turn_of" 1 ct_turn_of := by
  refine fn_mk T.d_turn_of sc_turn_of (fun ds A k e h => ?_) fun f cdv A0 outer s H E hr hp htk ds A kk ee h => ?_
  · obtain ⟨a, b, m, rfl, _⟩ := h; rfl
  obtain ⟨a, b, m, rfl, ha, hb, hm, hk⟩ := h
  refine as_retv (av_sub (av_mul (av_ixT (av_var (i := 0) rfl (.inl rfl) rfl) av_int rfl) (av_ixT (av_var (i := 1) rfl (.inl rfl) rfl) av_int rfl) (mulx ha.1 hb.2 (by omega))) (av_mul (av_ixT (av_var (i := 0) rfl (.inl rfl) rfl) av_int rfl) (av_ixT (av_var (i := 1) rfl (.inl rfl) rfl) av_int rfl) (mulx ha.2 hb.1 (by omega)))) hk
def ct_along : Ct := fun ds A k _ => ∃ (a : Ip) (b : Ip) (m : Nat), ds = [ip a, ip b] ∧ ((a.1.natAbs < 2 ^ m ∧ a.2.natAbs < 2 ^ m)) ∧ ((b.1.natAbs < 2 ^ m ∧ b.2.natAbs < 2 ^ m)) ∧ (m ≤ 40000) ∧ k (.int (dtI a b)) A
theorem ok_along (T : Txt K mg) : Fn P w K mg base "along" 1 ct_along := by
  refine fn_mk T.d_along sc_along (fun ds A k e h => ?_) fun f cdv A0 outer s H E hr hp htk ds A kk ee h => ?_
  · obtain ⟨a, b, m, rfl, _⟩ := h; rfl
  obtain ⟨a, b, m, rfl, ha, hb, hm, hk⟩ := h
  refine as_retv (av_add (av_mul (av_ixT (av_var (i := 0) rfl (.inl rfl) rfl) av_int rfl) (av_ixT (av_var (i := 1) rfl (.inl rfl) rfl) av_int rfl) (mulx ha.1 hb.1 (by omega))) (av_mul (av_ixT (av_var (i := 0) rfl (.inl rfl) rfl) av_int rfl) (av_ixT (av_var (i := 1) rfl (.inl rfl) rfl) av_int rfl) (mulx ha.2 hb.2 (by omega)))) hk
def ct_steps_between (P : Program) (w : World) : Ct := fun ds A k _ => ∃ (xs ys : List Ip), ds = [.fz (xs.map ip), .fz (ys.map ip)] ∧ xs.length ≤ 20 ∧ ys.length ≤ 20 ∧ ∀ p st, A p = none → StP xs ys xs.length 0 st → k (.ref p) (aupd A p (.dD P w p (kvsS st)))
theorem ok_steps_between (T : Txt K mg) : Fn P w K mg base "steps_between" 1 (ct_steps_between P w) := by
  refine fn_mk T.d_steps_between sc_steps_between (fun ds A k e h => ?_) fun f cdv A0 outer s H E hr hp htk ds A kk ee h => ?_
  · obtain ⟨xs, ys, rfl, _⟩ := h; rfl
  obtain ⟨xs, ys, rfl, hx, hy, hk⟩ := h
  refine as_set (i := 2) sc_steps_between.nd rfl (.inl rfl) (ae_dict0 fun g hg => ?_)
  refine AS.ro (ρ' := [some (.fz (xs.map ip)), some (.fz (ys.map ip)), some ((.ref g)), none, none, none, none]) ?_
  refine as_cons (a1_for hp rfl (ai_enumD ((0, 0) : Ip) rfl T.m_enumerate (av_var (i := 0) rfl (.inl rfl) rfl) IsL.fz ⟨fun i ρ A' => ∃ (y : Option D) (y2 : Option D) (y3 : Option D) (y4 : Option D), ρ = [some (.fz (xs.map ip)), some (.fz (ys.map ip)), some ((.ref g)), y, y2, y3, y4] ∧ (∃ st, A' = aupd A g (.dD P w g (kvsS st)) ∧ StP xs ys i 0 st), ⟨_, _, _, _, rfl, ⟨[], rfl, StP.zero xs ys⟩⟩, fun i ρ A' hle hI => IsL.fz, fun i ρ A' hi hI => ⟨_, _, (ag_tup rfl (ags_cons (ag_name (i := 3) sc_steps_between.nd rfl (.inl rfl)) (ags_cons (ag_name (i := 4) sc_steps_between.nd rfl (.inl rfl)) ags_nil))), ?_⟩, fun ρ A' hI => ?_⟩))
  · skip
    obtain ⟨y, y2, y3, y4, rfl, ⟨st, hA, hS⟩⟩ := hI
    subst hA
    refine AS.ro (ρ' := [some (.fz (xs.map ip)), some (.fz (ys.map ip)), some ((.ref g)), some (.int (i : Int)), some (ip (xs.getD i ((0, 0) : Ip))), y3, y4]) ?_
    refine as_cons (a1_for hp rfl (ai_enumD ((0, 0) : Ip) rfl T.m_enumerate (av_var (i := 1) rfl (.inl rfl) rfl) IsL.fz ⟨fun j ρ A' => ∃ (y5 : Option D) (y6 : Option D), ρ = [some (.fz (xs.map ip)), some (.fz (ys.map ip)), some ((.ref g)), some (.int (i : Int)), some (ip (xs.getD i ((0, 0) : Ip))), y5, y6] ∧ (∃ st2, A' = aupd A g (.dD P w g (kvsS st2)) ∧ StP xs ys i j st2), ⟨_, _, rfl, ⟨st, rfl, hS⟩⟩, fun j ρ A' hle hI => IsL.fz, fun j ρ A' hj hI => ⟨_, _, (ag_tup rfl (ags_cons (ag_name (i := 5) sc_steps_between.nd rfl (.inl rfl)) (ags_cons (ag_name (i := 6) sc_steps_between.nd rfl (.inl rfl)) ags_nil))), ?_⟩, fun ρ A' hI => ?_⟩))
    · skip
      obtain ⟨y5, y6, rfl, ⟨st2, hA2, hS2⟩⟩ := hI
      subst hA2
      refine AS.ro (ρ' := [some (.fz (xs.map ip)), some (.fz (ys.map ip)), some ((.ref g)), some (.int (i : Int)), some (ip (xs.getD i ((0, 0) : Ip))), some (.int (j : Int)), some (ip (ys.getD j ((0, 0) : Ip)))]) ?_
      have hlen := hS2.len
      have hmu : i * ys.length ≤ 20 * 20 := Nat.mul_le_mul (by omega) hy
      refine as_cons (a1_expr (ae_setd hr (av_var (i := 2) rfl (.inl rfl) rfl) (AV.is (av_tup (avs_c (av_sub (av_ixT (av_var (i := 6) rfl (.inl rfl) rfl) av_int rfl) (av_ixT (av_var (i := 4) rfl (.inl rfl) rfl) av_int rfl)) (avs_c (av_sub (av_ixT (av_var (i := 6) rfl (.inl rfl) rfl) av_int rfl) (av_ixT (av_var (i := 4) rfl (.inl rfl) rfl) av_int rfl)) avs_nil))) (show _ = D.tup [.int (sb (gi ys j) (gi xs i)).1, .int (sb (gi ys j) (gi xs i)).2] from rfl)) (AV.is (av_tup (avs_c (av_var (i := 3) rfl (.inl rfl) rfl) (avs_c (av_var (i := 5) rfl (.inl rfl) rfl) avs_nil))) (show _ = ip ((i : Int), (j : Int)) from rfl)) aupd_same (by rw [kvsS_len]; exact Nat.le_of_lt (small1000 (by omega))) (fun d9 h9 => ?_) (fun h9 => ?_)))
      · obtain ⟨q9, hq9, e9, _⟩ := lk_some h9
        exact as_nil ⟨_, _, rfl, ⟨st2, rfl, hS2.there ⟨q9, hq9, e9⟩⟩⟩
      · rw [aupd_aupd, ← kvsS_snoc]
        exact as_nil ⟨_, _, rfl, ⟨_, rfl, hS2.more hi hj (lk_none h9)⟩⟩
    obtain ⟨y5, y6, rfl, ⟨st2, hA2, hS2⟩⟩ := hI
    exact as_nil ⟨_, _, _, _, rfl, ⟨st2, hA2, hS2.next⟩⟩
  obtain ⟨y, y2, y3, y4, rfl, ⟨st, hA, hS⟩⟩ := hI
  subst hA
  refine AS.ro (ρ' := [some (.fz (xs.map ip)), some (.fz (ys.map ip)), some ((.ref g)), y, y2, y3, y4]) ?_
  refine as_ret (AV.ae (av_var (i := 2) rfl (.inl rfl) rfl) (hk g st hg hS))
def ct_ahead_of : Ct := fun ds A k _ => ∃ (a : Ip), ds = [ip a] ∧ (a = (0, 0) → k .non A) ∧ (a ≠ (0, 0) → k (ip a) A)
theorem ok_ahead_of (T : Txt K mg) : Fn P w K mg base "ahead_of" 1 ct_ahead_of := by
  refine fn_mk T.d_ahead_of sc_ahead_of (fun ds A k e h => ?_) fun f cdv A0 outer s H E hr hp htk ds A kk ee h => ?_
  · obtain ⟨a, rfl, _⟩ := h; rfl
  obtain ⟨a, rfl, hn, hk⟩ := h
  refine as_if (at_eqE (eT eI eI (dn_eI.up (by decide)) (dn_eI.up (by decide))) (x := a) (y := ((0, 0) : Ip)) hr (av_var (i := 0) rfl (.inl rfl) rfl) (av_tup (avs_c av_int (avs_c av_int avs_nil)))) (fun hb => ?_) (fun hb => as_end ?_)
  · exact as_retv av_non (hn (of_decide_eq_true hb))
  refine as_retv (av_var (i := 0) rfl (.inl rfl) rfl) (hk (of_decide_eq_false hb))
def ct_ahead_of_two : Ct := fun ds A k _ => ∃ (a : Ip) (b : Ip) (m : Nat), ds = [ip a, ip b] ∧ ((a.1.natAbs < 2 ^ m ∧ a.2.natAbs < 2 ^ m)) ∧ ((b.1.natAbs < 2 ^ m ∧ b.2.natAbs < 2 ^ m)) ∧ (m ≤ 40000) ∧ (cv a b = 0 → ¬ 0 < dtI a b → k .non A) ∧ (∀ w, Ah2 a b w → k (ip w) A)
theorem ok_ahead_of_two (T : Txt K mg) : Fn P w K mg base "ahead_of_two" 2 ct_ahead_of_two := by
  refine fn_mk T.d_ahead_of_two sc_ahead_of_two (fun ds A k e h => ?_) fun f cdv A0 outer s H E hr hp htk ds A kk ee h => ?_
  · obtain ⟨a, b, m, rfl, _⟩ := h; rfl
  obtain ⟨a, b, m, rfl, ha, hb, hm, hn, hk⟩ := h
  refine as_set (i := 2) sc_ahead_of_two.nd rfl (.inl rfl) (AV.ae (AE.av (ae_call (ok_turn_of T) (hr.mono (by decide)) rfl (AVs.aes (avs_c (av_var (i := 0) rfl (.inl rfl) rfl) (avs_c (av_var (i := 1) rfl (.inl rfl) rfl) avs_nil)) ⟨_, _, m, rfl, ha, hb, hm, ⟨rfl, Ext.refl _⟩⟩))) ?_)
  refine as_set (i := 3) sc_ahead_of_two.nd rfl (.inl rfl) (AV.ae (AV.is (av_tup (avs_c (av_sub (av_ixT (av_var (i := 0) rfl (.inl rfl) rfl) av_int rfl) (av_ixT (av_var (i := 1) rfl (.inl rfl) rfl) av_int rfl)) (avs_c (av_sub (av_ixT (av_var (i := 1) rfl (.inl rfl) rfl) av_int rfl) (av_ixT (av_var (i := 0) rfl (.inl rfl) rfl) av_int rfl)) avs_nil))) (show _ = ip (a.2 - b.2, b.1 - a.1) from rfl)) ?_)
  refine as_if (at_gt (av_var (i := 2) rfl (.inl rfl) rfl) av_int) (fun h1 => ?_) (fun h1 => as_end ?_)
  · refine as_retv (AV.is (av_tup (avs_c (av_sub av_int (av_ixT (av_var (i := 3) rfl (.inl rfl) rfl) av_int rfl)) (avs_c (av_sub av_int (av_ixT (av_var (i := 3) rfl (.inl rfl) rfl) av_int rfl)) avs_nil))) (show _ = ip (0 - (a.2 - b.2), 0 - (b.1 - a.1)) from rfl)) (hk _ (.inl ⟨of_decide_eq_true h1, rfl⟩))
  refine as_if (at_lt (av_var (i := 2) rfl (.inl rfl) rfl) av_int) (fun h2 => ?_) (fun h2 => as_end ?_)
  · refine as_retv (av_var (i := 3) rfl (.inl rfl) rfl) (hk _ (.inr (.inl ⟨of_decide_eq_true h2, rfl⟩)))
  have h0 : cv a b = 0 := by have := of_decide_eq_false h1; have := of_decide_eq_false h2; omega
  refine as_if (at_gt (AE.av (ae_call (ok_along T) (hr.mono (by decide)) rfl (AVs.aes (avs_c (av_var (i := 0) rfl (.inl rfl) rfl) (avs_c (av_var (i := 1) rfl (.inl rfl) rfl) avs_nil)) ⟨_, _, m, rfl, ha, hb, hm, ⟨rfl, Ext.refl _⟩⟩))) av_int) (fun h3 => ?_) (fun h3 => as_end ?_)
  · refine as_retv (av_var (i := 0) rfl (.inl rfl) rfl) (hk _ (.inr (.inr ⟨h0, of_decide_eq_true h3, rfl⟩)))
  exact as_retv av_non (hn h0 (of_decide_eq_false h3))
def ct_ahead_of_all : Ct := fun ds A k _ => ∃ (cs : (List Ip)) (m : Nat), ds = [.fz (cs.map ip)] ∧ (Bdl m cs) ∧ (m ≤ 40000) ∧ (0 < cs.length) ∧ (cs.length ≤ 400) ∧ (AhN cs → k .non A) ∧ (∀ w, AhW cs w → k (ip w) A)
theorem ok_ahead_of_all (T : Txt K mg) : Fn P w K mg base "ahead_of_all" 3 ct_ahead_of_all := by
  refine fn_mk T.d_ahead_of_all sc_ahead_of_all (fun ds A k e h => ?_) fun f cdv A0 outer s H E hr hp htk ds A kk ee h => ?_
  · obtain ⟨cs, m, rfl, _⟩ := h; rfl
  obtain ⟨cs, m, rfl, hz, hm, hl0, hl, hn, hk⟩ := h
  refine as_if (at_eq (av_lenD rfl T.m_len (av_var (i := 0) rfl (.inl rfl) rfl) IsL.fz) av_int) (fun h1 => ?_) (fun h1 => as_end ?_)
  · have h1 : cs.length = 1 := by have := of_decide_eq_true h1; omega
    refine as_ret (ae_call (ok_ahead_of T) (hr.mono (by decide)) rfl (AVs.aes (avs_c (AV.is (av_ixDN (f := ip) ((0, 0) : Ip) (av_var (i := 0) rfl (.inl rfl) rfl) IsL.fz av_int (n := 0) rfl (by omega)) (show _ = ip (gi cs 0) from rfl)) avs_nil) ⟨_, rfl, fun h => hn (.inl ⟨h1, h⟩), fun h => hk _ (.inl ⟨h1, h, rfl⟩)⟩))
  have h1 : cs.length ≠ 1 := by have := of_decide_eq_false h1; omega
  refine as_if (at_eq (av_lenD rfl T.m_len (av_var (i := 0) rfl (.inl rfl) rfl) IsL.fz) av_int) (fun h2 => ?_) (fun h2 => as_end ?_)
  · have h2 : cs.length = 2 := by have := of_decide_eq_true h2; omega
    refine as_ret (ae_call (ok_ahead_of_two T) (hr.mono (by decide)) rfl (AVs.aes (avs_c (AV.is (av_ixDN (f := ip) ((0, 0) : Ip) (av_var (i := 0) rfl (.inl rfl) rfl) IsL.fz av_int (n := 0) rfl (by omega)) (show _ = ip (gi cs 0) from rfl)) (avs_c (AV.is (av_ixDN (f := ip) ((0, 0) : Ip) (av_var (i := 0) rfl (.inl rfl) rfl) IsL.fz av_int (n := 1) rfl (by omega)) (show _ = ip (gi cs 1) from rfl)) avs_nil)) ⟨_, _, m, rfl, hz.gi 0, hz.gi 1, hm, fun e1 e2 => hn (.inr (.inl ⟨h2, e1, e2⟩)), fun w h => hk _ (.inr (.inl ⟨h2, h⟩))⟩))
  have h2 : 3 ≤ cs.length := by have := of_decide_eq_false h2; omega
  refine as_cons (a1_for hp rfl (ai_enumD ((0, 0) : Ip) rfl T.m_enumerate (av_var (i := 0) rfl (.inl rfl) rfl) IsL.fz ⟨fun i ρ A' => ∃ (y : Option D) (y2 : Option D) (y3 : Option D), ρ = [some (.fz (cs.map ip)), y, y2, y3] ∧ A = A' ∧ (∀ j, j < i → 0 ≤ cv (gi cs (prv cs.length j)) (gi cs j)), ⟨_, _, _, rfl, rfl, fun j hj => absurd hj (Nat.not_lt_zero _)⟩, fun i ρ A' hle hI => IsL.fz, fun i ρ A' hi hI => ⟨_, _, (ag_tup rfl (ags_cons (ag_name (i := 1) sc_ahead_of_all.nd rfl (.inl rfl)) (ags_cons (ag_name (i := 2) sc_ahead_of_all.nd rfl (.inl rfl)) ags_nil))), ?_⟩, fun ρ A' hI => ?_⟩))
  · skip
    obtain ⟨y, y2, y3, rfl, rfl, hI1⟩ := hI
    refine AS.ro (ρ' := [some (.fz (cs.map ip)), some (.int (i : Int)), some (ip (cs.getD i ((0, 0) : Ip))), y3]) ?_
    refine as_set (i := 3) sc_ahead_of_all.nd rfl (.inl rfl) (AV.ae (av_ixL (av_var (i := 0) rfl (.inl rfl) rfl) (av_sub (av_var (i := 1) rfl (.inl rfl) rfl) av_int) IsL.fz (atPrv hi)) ?_)
    refine AS.ro (ρ' := [some (.fz (cs.map ip)), some (.int (i : Int)), some (ip (gi cs i)), some (ip (gi cs (prv cs.length i)))]) ?_
    refine as_if (at_lt (AE.av (ae_call (ok_turn_of T) (hr.mono (by decide)) rfl (AVs.aes (avs_c (av_var (i := 3) rfl (.inl rfl) rfl) (avs_c (av_var (i := 2) rfl (.inl rfl) rfl) avs_nil)) ⟨(gi cs (prv cs.length i)), (gi cs i), m, rfl, hz.gi _, hz.gi _, hm, ⟨rfl, Ext.refl _⟩⟩))) av_int) (fun hc9 => ?_) (fun hc9 => as_end ?_)
    · refine as_retv (AV.is (av_tup (avs_c (av_sub (av_ixT (av_var (i := 3) rfl (.inl rfl) rfl) av_int rfl) (av_ixT (av_var (i := 2) rfl (.inl rfl) rfl) av_int rfl)) (avs_c (av_sub (av_ixT (av_var (i := 2) rfl (.inl rfl) rfl) av_int rfl) (av_ixT (av_var (i := 3) rfl (.inl rfl) rfl) av_int rfl)) avs_nil))) (show _ = ip ((gi cs (prv cs.length i)).2 - (gi cs i).2, (gi cs i).1 - (gi cs (prv cs.length i)).1) from rfl)) (hk _ (.inr (.inr ⟨h2, i, hi, of_decide_eq_true hc9, rfl⟩)))
    have hc9 : 0 ≤ cv (gi cs (prv cs.length i)) (gi cs i) := by have := of_decide_eq_false hc9; omega
    exact as_nil ⟨_, _, _, rfl, rfl, fun j hj => (Nat.lt_succ_iff_lt_or_eq.mp hj).elim (hI1 j) (fun e => by subst e; exact hc9)⟩
  obtain ⟨y, y2, y3, rfl, rfl, hI1⟩ := hI
  exact as_retv av_non (hn (.inr (.inr ⟨h2, hI1⟩)))
def ct_parts_of_two : Ct := fun ds A k _ => ∃ (a : Ip) (b : Ip), ds = [ip a, ip b] ∧ k (.fz ((parts2 a b).map fun q => D.tup [ip q.1, .int q.2])) A
theorem ok_parts_of_two (T : Txt K mg) : Fn P w K mg base "parts_of_two" 1 ct_parts_of_two := by
  refine fn_mk T.d_parts_of_two sc_parts_of_two (fun ds A k e h => ?_) fun f cdv A0 outer s H E hr hp htk ds A kk ee h => ?_
  · obtain ⟨a, b, rfl, _⟩ := h; rfl
  obtain ⟨a, b, rfl, hk⟩ := h
  refine as_set (i := 2) sc_parts_of_two.nd rfl (.inl rfl) (AV.ae (av_add (av_abs rfl T.m_abs (av_ixT (av_var (i := 1) rfl (.inl rfl) rfl) av_int rfl)) (av_abs rfl T.m_abs (av_ixT (av_var (i := 1) rfl (.inl rfl) rfl) av_int rfl))) ?_)
  refine as_set (i := 3) sc_parts_of_two.nd rfl (.inl rfl) (AV.ae (av_add (av_abs rfl T.m_abs (av_ixT (av_var (i := 0) rfl (.inl rfl) rfl) av_int rfl)) (av_abs rfl T.m_abs (av_ixT (av_var (i := 0) rfl (.inl rfl) rfl) av_int rfl))) ?_)
  refine as_retv (av_lst (ds := (parts2 a b).map fun q => D.tup [ip q.1, .int q.2]) (avs_c (av_tup (avs_c (av_var (i := 0) rfl (.inl rfl) rfl) (avs_c (av_var (i := 2) rfl (.inl rfl) rfl) avs_nil))) (avs_c (av_tup (avs_c (av_var (i := 1) rfl (.inl rfl) rfl) (avs_c (av_var (i := 3) rfl (.inl rfl) rfl) avs_nil))) avs_nil))) hk
def ct_parts_of : Ct := fun ds A k _ => ∃ (S : List Ip) (m : Nat), ds = [.fz ((cornersI S).map ip)] ∧ Bdl m (cornersI S) ∧ m ≤ 40000 ∧ 0 < S.length ∧ (cornersI S).length ≤ 400 ∧ AhN (cornersI S) ∧ ∀ ps, PartsOk (cornersI S) ps → (∀ q ∈ ps, q.2.natAbs < 2 ^ (2 * m + 2)) → k (.fz (ps.map fun q => D.tup [ip q.1, .int q.2])) A
theorem ok_parts_of (T : Txt K mg) : Fn P w K mg base "parts_of" 2 ct_parts_of := by
  refine fn_mk T.d_parts_of sc_parts_of (fun ds A k e h => ?_) fun f cdv A0 outer s H E hr hp htk ds A kk ee h => ?_
  · obtain ⟨S, m, rfl, _⟩ := h; rfl
  obtain ⟨S, m, rfl, hz, hm, hS0, hl, hN, hk⟩ := h
  have hl0 := corners_ne hS0
  have honce : ∀ i j, i < (cornersI S).length → j < (cornersI S).length → gi (cornersI S) i = gi (cornersI S) j → i = j := fun i j hi hj e => corners_once hi hj e
  have hfan : 3 ≤ (cornersI S).length → ∀ k, 1 ≤ k → k + 1 < (cornersI S).length → 0 < crI (gi (cornersI S) 0) (gi (cornersI S) k) (gi (cornersI S) (k + 1)) := fun h3 k h1 hk => fan_pos h3 h1 hk
  have hfind : 3 ≤ (cornersI S).length → (∀ k, k < (cornersI S).length → 0 ≤ cv (gi (cornersI S) (prv (cornersI S).length k)) (gi (cornersI S) k)) → ∃ k, 1 ≤ k ∧ k + 1 < (cornersI S).length ∧ 0 ≤ cv (gi (cornersI S) k) (gi (cornersI S) (k + 1)) ∧ 0 ≤ cv (gi (cornersI S) (k + 1)) (gi (cornersI S) 0) ∧ 0 ≤ cv (gi (cornersI S) 0) (gi (cornersI S) k) := fun h3 h => fan_find h3 h
  have hcv : ∀ i j, (cv (gi (cornersI S) i) (gi (cornersI S) j)).natAbs < 2 ^ (2 * m + 2) := fun i j => bt_le (bt_sub (bt_mul (hz.gi i).1 (hz.gi j).2) (bt_mul (hz.gi i).2 (hz.gi j).1)) (by omega)
  have hal : ∀ i, (abI (gi (cornersI S) i).1 + abI (gi (cornersI S) i).2).natAbs < 2 ^ (2 * m + 2) := fun i => by
    have h1 := (hz.gi i).1
    have h2 := (hz.gi i).2
    have h3 : (2 : Nat) ^ (m + 1) ≤ 2 ^ (2 * m + 2) := Nat.pow_le_pow_right (by decide) (by omega)
    rw [abI_eq, abI_eq]
    rw [Nat.pow_succ] at h3
    omega
  obtain ⟨cs, hcs⟩ : ∃ cs, cs = cornersI S := ⟨_, rfl⟩
  rw [← hcs] at hz hl hN hk hl0 honce hfan hfind hcv hal ⊢
  refine as_if (at_eq (av_lenD rfl T.m_len (av_var (i := 0) rfl (.inl rfl) rfl) IsL.fz) av_int) (fun h1 => ?_) (fun h1 => as_end ?_)
  · have h1 : cs.length = 1 := by have := of_decide_eq_true h1; omega
    have h0 : gi cs 0 = (0, 0) := by rcases hN with h | h | h; exact h.2; omega; omega
    refine as_retv (av_lst (ds := [((gi cs 0, 1) : Ip × Int)].map (fun q : Ip × Int => D.tup [ip q.1, .int q.2])) (avs_c (av_tup (avs_c (AV.is (av_ixDN (f := ip) ((0, 0) : Ip) (av_var (i := 0) rfl (.inl rfl) rfl) IsL.fz av_int (n := 0) (rfl) (by omega)) (show _ = ip (gi cs (0)) from rfl)) (avs_c av_int avs_nil))) avs_nil)) (hk [(gi cs 0, 1)] ⟨fun q hq => ?_, fun q hq => ?_, (show (0 : Int) < 1 + 0 by decide), ?_, ?_, by simp⟩ fun q hq => ?_)
    · rw [List.mem_singleton.mp hq]; exact gi_mem (by omega)
    · rw [List.mem_singleton.mp hq]; show (0 : Int) ≤ 1; decide
    · show 1 * (gi cs 0).1 + 0 = 0; rw [h0]; rfl
    · show 1 * (gi cs 0).2 + 0 = 0; rw [h0]; rfl
    · rw [List.mem_singleton.mp hq]; exact Nat.one_lt_two_pow (by omega)
  have h1 : cs.length ≠ 1 := by have := of_decide_eq_false h1; omega
  refine as_if (at_eq (av_lenD rfl T.m_len (av_var (i := 0) rfl (.inl rfl) rfl) IsL.fz) av_int) (fun h2 => ?_) (fun h2 => as_end ?_)
  · have h2 : cs.length = 2 := by have := of_decide_eq_true h2; omega
    have h0 : cv (gi cs 0) (gi cs 1) = 0 ∧ ¬ 0 < dtI (gi cs 0) (gi cs 1) := by rcases hN with h | h | h; omega; exact h.2; omega
    have hne : gi cs 0 ≠ gi cs 1 := fun e => by have := honce 0 1 (by omega) (by omega) e; omega
    have hok := parts2_ok hne h0.1 h0.2
    refine as_ret (ae_call (ok_parts_of_two T) (hr.mono (by decide)) rfl (AVs.aes (avs_c (AV.is (av_ixDN (f := ip) ((0, 0) : Ip) (av_var (i := 0) rfl (.inl rfl) rfl) IsL.fz av_int (n := 0) (rfl) (by omega)) (show _ = ip (gi cs (0)) from rfl)) (avs_c (AV.is (av_ixDN (f := ip) ((0, 0) : Ip) (av_var (i := 0) rfl (.inl rfl) rfl) IsL.fz av_int (n := 1) (rfl) (by omega)) (show _ = ip (gi cs (1)) from rfl)) avs_nil)) ⟨_, _, rfl, hk _ ⟨fun q hq => ?_, hok.nn, hok.pos, hok.x, hok.y, hok.few⟩ fun q hq => ?_⟩))
    · have := hok.mem q hq
      simp only [List.mem_cons, List.not_mem_nil, or_false] at this
      rcases this with e | e <;> (rw [e]; exact gi_mem (by omega))
    · unfold parts2 at hq
      simp only [List.mem_cons, List.not_mem_nil, or_false] at hq
      rcases hq with rfl | rfl
      · exact hal 1
      · exact hal 0
  have h2 : 3 ≤ cs.length := by have := of_decide_eq_false h2; omega
  have hall : ∀ k, k < cs.length → 0 ≤ cv (gi cs (prv cs.length k)) (gi cs k) := by rcases hN with h | h | h; omega; omega; exact h.2
  refine as_set (i := 1) sc_parts_of.nd rfl (.inl rfl) (AV.ae (AV.is (av_ixDN (f := ip) ((0, 0) : Ip) (av_var (i := 0) rfl (.inl rfl) rfl) IsL.fz av_int (n := 0) (rfl) (by omega)) (show _ = ip (gi cs (0)) from rfl)) ?_)
  refine AS.ro (ρ' := [some (.fz (cs.map ip)), some (ip (gi cs 0)), none, none, none, none, none]) ?_
  refine as_cons (a1_for hp rfl (ai_range2 rfl T.m_range (avs_c av_int (avs_c (av_sub (av_lenD rfl T.m_len (av_var (i := 0) rfl (.inl rfl) rfl) IsL.fz) av_int) avs_nil)) ⟨_, _, rfl, by walk_at "om4", ⟨fun i ρ A' => ∃ (y : Option D) (y2 : Option D) (y3 : Option D) (y4 : Option D), ρ = [some (.fz (cs.map ip)), some (ip (gi cs 0)), y, y2, y3, y4, none] ∧ A = A' ∧ (∀ j, j < i → ¬ (0 ≤ cv (gi cs (j + 1)) (gi cs (j + 1 + 1)) ∧ 0 ≤ cv (gi cs (j + 1 + 1)) (gi cs 0) ∧ 0 ≤ cv (gi cs 0) (gi cs (j + 1)))), ⟨_, _, _, _, rfl, rfl, fun j hj => absurd hj (Nat.not_lt_zero _)⟩, fun i ρ A' hle hI => trivial, fun i ρ A' hi hI => ⟨_, _, (ag_name (i := 2) sc_parts_of.nd rfl (.inl rfl)), ?_⟩, fun ρ A' hI => ?_⟩⟩))
  · skip
    obtain ⟨y, y2, y3, y4, rfl, rfl, hI1⟩ := hI
    refine AS.ro (ρ' := [some (.fz (cs.map ip)), some (ip (gi cs 0)), some (.int (1 + (i : Int))), y2, y3, y4, none]) ?_
    have hi2 : i + 1 + 1 < cs.length := by omega
    refine as_set (i := 3) sc_parts_of.nd rfl (.inl rfl) (AV.ae (AV.is (av_ixDN (f := ip) ((0, 0) : Ip) (av_var (i := 0) rfl (.inl rfl) rfl) IsL.fz (av_var (i := 2) rfl (.inl rfl) rfl) (n := i + 1) (by omega) (by omega)) (show _ = ip (gi cs (i + 1)) from rfl)) ?_)
    refine AS.ro (ρ' := [some (.fz (cs.map ip)), some (ip (gi cs 0)), some (.int (1 + (i : Int))), some (ip (gi cs (i + 1))), y3, y4, none]) ?_
    refine as_set (i := 4) sc_parts_of.nd rfl (.inl rfl) (AV.ae (AV.is (av_ixDN (f := ip) ((0, 0) : Ip) (av_var (i := 0) rfl (.inl rfl) rfl) IsL.fz (av_add (av_var (i := 2) rfl (.inl rfl) rfl) av_int) (n := i + 1 + 1) (by omega) (by omega)) (show _ = ip (gi cs (i + 1 + 1)) from rfl)) ?_)
    refine AS.ro (ρ' := [some (.fz (cs.map ip)), some (ip (gi cs 0)), some (.int (1 + (i : Int))), some (ip (gi cs (i + 1))), some (ip (gi cs (i + 1 + 1))), y4, none]) ?_
    refine as_set (i := 5) sc_parts_of.nd rfl (.inl rfl) (AV.ae (av_lst (ds := (parts3 (gi cs 0) (gi cs (i + 1)) (gi cs (i + 1 + 1))).map (fun q : Ip × Int => D.tup [ip q.1, .int q.2])) (avs_c (av_tup (avs_c (av_var (i := 1) rfl (.inl rfl) rfl) (avs_c (AE.av (ae_call (ok_turn_of T) (hr.mono (by decide)) rfl (AVs.aes (avs_c (av_var (i := 3) rfl (.inl rfl) rfl) (avs_c (av_var (i := 4) rfl (.inl rfl) rfl) avs_nil)) ⟨(gi cs (i + 1)), (gi cs (i + 1 + 1)), m, rfl, hz.gi _, hz.gi _, hm, ⟨rfl, Ext.refl _⟩⟩))) avs_nil))) (avs_c (av_tup (avs_c (av_var (i := 3) rfl (.inl rfl) rfl) (avs_c (AE.av (ae_call (ok_turn_of T) (hr.mono (by decide)) rfl (AVs.aes (avs_c (av_var (i := 4) rfl (.inl rfl) rfl) (avs_c (av_var (i := 1) rfl (.inl rfl) rfl) avs_nil)) ⟨(gi cs (i + 1 + 1)), (gi cs 0), m, rfl, hz.gi _, hz.gi _, hm, ⟨rfl, Ext.refl _⟩⟩))) avs_nil))) (avs_c (av_tup (avs_c (av_var (i := 4) rfl (.inl rfl) rfl) (avs_c (AE.av (ae_call (ok_turn_of T) (hr.mono (by decide)) rfl (AVs.aes (avs_c (av_var (i := 1) rfl (.inl rfl) rfl) (avs_c (av_var (i := 3) rfl (.inl rfl) rfl) avs_nil)) ⟨(gi cs 0), (gi cs (i + 1)), m, rfl, hz.gi _, hz.gi _, hm, ⟨rfl, Ext.refl _⟩⟩))) avs_nil))) avs_nil)))) ?_)
    refine AS.ro (ρ' := [some (.fz (cs.map ip)), some (ip (gi cs 0)), some (.int (1 + (i : Int))), some (ip (gi cs (i + 1))), some (ip (gi cs (i + 1 + 1))), some (.fz ((parts3 (gi cs 0) (gi cs (i + 1)) (gi cs (i + 1 + 1))).map (fun z : (Ip × Int) => D.tup [ip z.1, D.int z.2]))), none]) ?_
    refine as_if (at_ge (AV.is (av_minL rfl rfl T.m_min (AV.is (av_lcF rfl sc_parts_of.nd (blkOk_by rfl) (own := [("part", 6)]) (is := [6]) (f := D.int) (F := fun j => ((parts3 (gi cs 0) (gi cs (i + 1)) (gi cs (i + 1 + 1))).getD j (((0, 0), 0) : Ip × Int)).2) (by decide) (ai_F (((0, 0) : Ip), (0 : Int)) (f := (fun z : (Ip × Int) => D.tup [ip z.1, D.int z.2])) (av_var (i := 5) rfl (.inl rfl) rfl) ⟨rfl, rfl, (Nat.le_of_ble_eq_true rfl), (fun _ x => trivial), fun j hj => ⟨_, fun s H C cl fp => ⟨(ag_name (i := 6) sc_parts_of.nd rfl (.inl rfl)), fun A' x => (av_ixT (av_var (i := 6) rfl (.inl rfl) rfl) av_int rfl)⟩⟩⟩)) (show _ = D.fz (([cv (gi cs (i + 1)) (gi cs (i + 1 + 1)), cv (gi cs (i + 1 + 1)) (gi cs 0), cv (gi cs 0) (gi cs (i + 1))] : List Int).map D.int) from rfl)) (by simp)) (show _ = D.int (minI [cv (gi cs (i + 1)) (gi cs (i + 1 + 1)), cv (gi cs (i + 1 + 1)) (gi cs 0), cv (gi cs 0) (gi cs (i + 1))]) from rfl)) av_int) (fun hc9 => ?_) (fun hc9 => as_end ?_)
    · have hc9 := min3.mp (of_decide_eq_true hc9)
      refine as_retv (av_var (i := 5) rfl (.inl rfl) rfl) (hk _ (parts3_ok (gi_mem (by omega)) (gi_mem (by omega)) (gi_mem hi2) hc9.1 hc9.2.1 hc9.2.2 (hfan h2 (i + 1) (by omega) hi2)) fun q hq => ?_)
      unfold parts3 at hq
      simp only [List.mem_cons, List.not_mem_nil, or_false] at hq
      rcases hq with rfl | rfl | rfl <;> exact hcv _ _
    have hc9 := fun h => of_decide_eq_false hc9 (min3.mpr h)
    exact as_nil ⟨_, _, _, _, rfl, rfl, fun j hj => (Nat.lt_succ_iff_lt_or_eq.mp hj).elim (hI1 j) (fun e => by subst e; exact hc9)⟩
  obtain ⟨y, y2, y3, y4, rfl, rfl, hI1⟩ := hI
  obtain ⟨k9, g1, g2, g3, g4, g5⟩ := hfind h2 hall
  exact absurd ⟨by rw [show k9 - 1 + 1 = k9 by omega]; exact g3, by rw [show k9 - 1 + 1 = k9 by omega]; exact g4, by rw [show k9 - 1 + 1 = k9 by omega]; exact g5⟩ (hI1 (k9 - 1) (by omega))
/-- whole numbers over one bottom -/
theorem den_dvd {q : Rat} {N B : Int} (hB : B ≠ 0) (h : q = (N : Rat) / (B : Rat)) : (q.den : Int) ∣ B := by
  have e := num_mul hB h
  have hc : Nat.Coprime q.den q.num.natAbs := q.reduced.symm
  have : q.den ∣ q.num.natAbs * B.natAbs := ⟨N.natAbs, by
    have := congrArg Int.natAbs e
    rw [Int.natAbs_mul, Int.natAbs_mul, Int.natAbs_natCast] at this
    rw [this, Nat.mul_comm]⟩
  exact Int.natAbs_dvd_natAbs.mp (hc.dvd_of_dvd_mul_left this)
theorem ov_dvd {B : Int} {m : Nat} {p : Pt} (hB : B ≠ 0) (h : OvP B m p) : dvP B p := by
  obtain ⟨⟨N, e, _⟩, M, f, _⟩ := h
  exact ⟨den_dvd hB e, den_dvd hB f⟩
theorem whole1 {b : Int} {q : Rat} (h : (q.den : Int) ∣ b) : ((q.num * (b / (q.den : Int)) : Int) : Rat) = (b : Rat) * q := by
  obtain ⟨c, hc⟩ := h
  have hd := den_pos q
  have e : b / (q.den : Int) = c := by rw [hc]; exact Int.mul_ediv_cancel_left c (by omega)
  have hq : q * (q.den : Rat) = (q.num : Rat) := by have := rat_eq q; have := den_ne q; grind
  rw [e, hc]
  push_cast
  grind
theorem wholeC_eq {b : Int} {p : Pt} (h : dvP b p) : ((wholeC b p).1 : Rat) = (b : Rat) * p.1 ∧ ((wholeC b p).2 : Rat) = (b : Rat) * p.2 := ⟨whole1 h.1, whole1 h.2⟩
theorem gi_whole (b : Int) (row : List Pt) (k : Nat) : gi (row.map (wholeC b)) k = wholeC b (gp row k) := by
  unfold gi gp
  rw [List.getD_eq_getElem?_getD, List.getD_eq_getElem?_getD, List.getElem?_map]
  cases row[k]? with
  | none =>
    show ((0, 0) : Ip) = ((0 : Rat).num * (b / ((0 : Rat).den : Int)), (0 : Rat).num * (b / ((0 : Rat).den : Int)))
    have e : (0 : Rat).num = 0 := rfl
    rw [e]
    simp
  | some p => rfl
theorem dvP_gp {b : Int} {row : List Pt} (h : ∀ p ∈ row, dvP b p) (k : Nat) : dvP b (gp row k) := by
  by_cases hk : k < row.length
  · exact h _ (gp_mem hk)
  · unfold gp
    rw [List.getD_eq_getElem?_getD, List.getElem?_eq_none (by omega)]
    exact ⟨⟨b, by show b = ((1 : Nat) : Int) * b; omega⟩, ⟨b, by show b = ((1 : Nat) : Int) * b; omega⟩⟩
/-! scaled whole numbers; means of places -/
def scI (c : Int) (z : Ip) : Ip := (z.1 * c, z.2 * c)
theorem crI_sc (c : Int) (a b z : Ip) : crI (scI c a) (scI c b) (scI c z) = crI a b z * (c * c) := by unfold crI scI; grind
theorem cr_sc_pos {c : Int} (hc : 0 < c) (a b z : Ip) : 0 < crI (scI c a) (scI c b) (scI c z) ↔ 0 < crI a b z := by
  rw [crI_sc]
  have h2 : 0 < c * c := Int.mul_pos hc hc
  constructor
  · intro h; rw [Int.mul_comm] at h; exact pos_of_mul h2 h
  · intro h; exact Int.mul_pos h h2
theorem lt_sc {c : Int} (hc : 0 < c) {p q : Ip} : ltP (scI c p) (scI c q) = ltP p q := by
  unfold ltP scI
  rw [decide_eq_decide]
  have k : ∀ x y : Int, x * c < y * c ↔ x < y := fun x y => ⟨fun h => Int.lt_of_mul_lt_mul_right h (by omega), fun h => Int.mul_lt_mul_of_pos_right h hc⟩
  have e : ∀ x y : Int, x * c = y * c ↔ x = y := fun x y => ⟨fun h => Int.eq_of_mul_eq_mul_right (by omega) h, fun h => by rw [h]⟩
  dsimp only
  rw [k, k, e]
theorem sc_inj {c : Int} (hc : 0 < c) {p q : Ip} : scI c p = scI c q ↔ p = q := by
  constructor
  · intro h
    have h1 : p.1 * c = q.1 * c := congrArg Prod.fst h
    have h2 : p.2 * c = q.2 * c := congrArg Prod.snd h
    exact Prod.ext (Int.eq_of_mul_eq_mul_right (by omega) h1) (Int.eq_of_mul_eq_mul_right (by omega) h2)
  · intro h; rw [h]
theorem insP_sc {c : Int} (hc : 0 < c) (z : Ip) : ∀ l : List Ip, insP (scI c z) (l.map (scI c)) = (insP z l).map (scI c)
  | [] => rfl
  | y :: r => by
    show insP (scI c z) (scI c y :: r.map (scI c)) = _
    unfold insP
    rw [lt_sc hc]
    by_cases h1 : ltP z y = true
    · rw [if_pos h1, if_pos h1]; rfl
    · rw [if_neg h1, if_neg h1]
      by_cases h2 : z = y
      · rw [if_pos h2, if_pos (by rw [h2])]; rfl
      · rw [if_neg h2, if_neg (fun e => h2 ((sc_inj hc).mp e)), insP_sc hc z r]; rfl
theorem srtP_sc {c : Int} (hc : 0 < c) : ∀ zs : List Ip, srtP (zs.map (scI c)) = (srtP zs).map (scI c)
  | [] => rfl
  | z :: zs => by
    show insP (scI c z) (srtP (zs.map (scI c))) = _
    rw [srtP_sc hc zs, insP_sc hc]
    rfl
theorem popC_sc {c : Int} (hc : 0 < c) : ∀ (st : List Ip) (z : Ip), popC (st.map (scI c)) (scI c z) = (popC st z).map (scI c)
  | [], _ => rfl
  | [_], _ => rfl
  | b :: a :: r, z => by
    show popC (scI c b :: scI c a :: r.map (scI c)) (scI c z) = _
    unfold popC
    by_cases h : 0 < crI a b z
    · rw [if_pos h, if_pos ((cr_sc_pos hc a b z).mpr h)]; rfl
    · rw [if_neg h, if_neg (fun e => h ((cr_sc_pos hc a b z).mp e))]
      exact popC_sc hc (a :: r) z
theorem chainL_sc {c : Int} (hc : 0 < c) (zs : List Ip) : chainL (zs.map (scI c)) = (chainL zs).map (scI c) := by
  have h : ∀ (ys st : List Ip), (ys.map (scI c)).foldl (fun st z => z :: popC st z) (st.map (scI c)) = (ys.foldl (fun st z => z :: popC st z) st).map (scI c) := by
    intro ys
    induction ys with
    | nil => intro st; rfl
    | cons y r ih =>
      intro st
      show (r.map (scI c)).foldl _ (scI c y :: popC (st.map (scI c)) (scI c y)) = _
      rw [popC_sc hc]
      exact ih (y :: popC st y)
  unfold chainL
  rw [show stkC (zs.map (scI c)) = (stkC zs).map (scI c) from h zs [], List.map_reverse]
theorem cornersI_sc {c : Int} (hc : 0 < c) (zs : List Ip) : cornersI (zs.map (scI c)) = (cornersI zs).map (scI c) := by
  unfold cornersI
  rw [srtP_sc hc, List.length_map, ← List.map_reverse, chainL_sc hc, chainL_sc hc]
  split
  · rfl
  · rw [List.map_append, List.map_dropLast, List.map_dropLast]
theorem ptC_sc {b c : Int} (hb : b ≠ 0) (hc : c ≠ 0) (z : Ip) : ptC (b * c) (scI c z) = ptC b z := by
  have hb' : (b : Rat) ≠ 0 := fun e => hb (by exact_mod_cast e)
  have hc' : (c : Rat) ≠ 0 := fun e => hc (by exact_mod_cast e)
  unfold ptC scI
  push_cast
  exact Prod.ext (by show (_ : Rat) * _ / _ = _ / _; grind) (by show (_ : Rat) * _ / _ = _ / _; grind)
theorem ptC_whole {b : Int} {p : Pt} (hb : b ≠ 0) (h : dvP b p) : ptC b (wholeC b p) = p := by
  have hb' : (b : Rat) ≠ 0 := fun e => hb (by exact_mod_cast e)
  obtain ⟨h1, h2⟩ := wholeC_eq h
  unfold ptC
  rw [h1, h2]
  exact Prod.ext (by show (_ : Rat) * _ / _ = _; grind) (by show (_ : Rat) * _ / _ = _; grind)
/-- the hull, over whatever bottom -/
theorem hull_any {b B : Int} {zs : List Ip} (hb : 0 < b) (hB : 0 < B) (hd : b ∣ B) (hv : ∀ p ∈ zs.map (ptC B), dvP b p) : (cornersI ((zs.map (ptC B)).map (wholeC b))).map (ptC b) = (cornersI zs).map (ptC B) := by
  obtain ⟨c, hc⟩ := hd
  have c0 : 0 < c := pos_of_mul hb (by rw [← hc]; exact hB)
  have e : zs = ((zs.map (ptC B)).map (wholeC b)).map (scI c) := by
    rw [List.map_map, List.map_map]
    conv => lhs; rw [← List.map_id zs]
    refine List.map_congr_left fun z hz => ?_
    have h1 := hv _ (List.mem_map.mpr ⟨z, hz, rfl⟩)
    refine (ptC_inj (B := B) (by omega)).mp ?_
    show ptC B z = ptC B (scI c (wholeC b (ptC B z)))
    rw [hc, ptC_sc (by omega) (by omega), ptC_whole (by omega) (by rw [← hc]; exact h1)]
  generalize (zs.map (ptC B)).map (wholeC b) = ys at e ⊢
  rw [e, cornersI_sc c0, List.map_map]
  refine List.map_congr_left fun z _ => ?_
  show ptC b z = ptC B (scI c z)
  rw [hc, ptC_sc (by omega) (by omega)]
/-! means -/
theorem sumN_nn {f : Nat → Rat} : ∀ {n : Nat}, (∀ k, k < n → 0 ≤ f k) → 0 ≤ sumN f n
  | 0, _ => Rat.le_refl
  | n + 1, h => Rat.add_nonneg (sumN_nn fun k hk => h k (by omega)) (h n (by omega))
def mean (w : Nat → Rat) (q : Nat → Pt) (n : Nat) : Pt := (sumN (fun k => w k * (q k).1) n, sumN (fun k => w k * (q k).2) n)
theorem mean_lin {w x y : Nat → Rat} {n : Nat} (a b c : Rat) (h1 : sumN w n = 1) : sumN (fun k => w k * (a * x k + b * y k + c)) n = a * sumN (fun k => w k * x k) n + b * sumN (fun k => w k * y k) n + c := by
  have e : (fun k => w k * (a * x k + b * y k + c)) = fun k => (a * (w k * x k) + b * (w k * y k)) + c * w k := by funext k; grind
  rw [e, sumN_add, sumN_add, sumN_mul, sumN_mul, sumN_mul, h1]
  grind
theorem mean_ge {w x : Nat → Rat} {n : Nat} {m : Rat} (h0 : ∀ k, k < n → 0 ≤ w k) (h1 : sumN w n = 1) (h : ∀ k, k < n → m ≤ x k) : m ≤ sumN (fun k => w k * x k) n := by
  have hh : 0 ≤ sumN (fun k => w k * (1 * x k + 0 * x k + (-m))) n := sumN_nn fun k hk => Rat.mul_nonneg (h0 k hk) (by have := h k hk; grind)
  rw [mean_lin 1 0 (-m) h1] at hh
  grind
theorem mean_le {w x : Nat → Rat} {n : Nat} {m : Rat} (h0 : ∀ k, k < n → 0 ≤ w k) (h1 : sumN w n = 1) (h : ∀ k, k < n → x k ≤ m) : sumN (fun k => w k * x k) n ≤ m := by
  have hh : 0 ≤ sumN (fun k => w k * ((-1) * x k + 0 * x k + m)) n := sumN_nn fun k hk => Rat.mul_nonneg (h0 k hk) (by have := h k hk; grind)
  rw [mean_lin (-1) 0 m h1] at hh
  grind
theorem btwR_iff {a b p : Rat} : btwR a b p = true ↔ (a ≤ p ∧ p ≤ b) ∨ (b ≤ p ∧ p ≤ a) := by
  unfold btwR
  rw [decide_eq_true_eq]
  constructor
  · intro h
    rcases Rat.le_total (a := a) (b := p) with h1 | h1
    · rcases Rat.le_total (a := p) (b := b) with h2 | h2
      · exact .inl ⟨h1, h2⟩
      · by_cases e : p = a
        · right; rw [e] at h2 ⊢; exact ⟨h2, Rat.le_refl⟩
        · by_cases e2 : p = b
          · left; rw [← e2]; exact ⟨h1, Rat.le_refl⟩
          · exact absurd (Rat.mul_pos (a := p - a) (b := p - b) (by have := Rat.lt_of_le_of_ne h1 (Ne.symm e); grind) (by have := Rat.lt_of_le_of_ne h2 (Ne.symm e2); grind)) h
    · rcases Rat.le_total (a := p) (b := b) with h2 | h2
      · by_cases e : p = a
        · left; rw [e] at h2 ⊢; exact ⟨Rat.le_refl, h2⟩
        · by_cases e2 : p = b
          · right; rw [← e2]; exact ⟨Rat.le_refl, h1⟩
          · have a1 : 0 < a - p := by have := Rat.lt_of_le_of_ne h1 e; grind
            have a2 : 0 < b - p := by have := Rat.lt_of_le_of_ne h2 e2; grind
            have a3 := Rat.mul_pos a1 a2
            have a4 : (p - a) * (p - b) = (a - p) * (b - p) := by grind
            rw [a4] at h
            exact absurd a3 h
      · exact .inr ⟨h2, h1⟩
  · intro h hp
    have k : (p - a) * (p - b) ≤ 0 := by
      rcases h with ⟨h1, h2⟩ | ⟨h1, h2⟩
      · have := Rat.mul_nonneg (a := p - a) (b := b - p) (by grind) (by grind)
        grind
      · have := Rat.mul_nonneg (a := a - p) (b := p - b) (by grind) (by grind)
        grind
    grind
theorem btw_mean {w x : Nat → Rat} {n : Nat} {a b : Rat} (h0 : ∀ k, k < n → 0 ≤ w k) (h1 : sumN w n = 1) (h : ∀ k, k < n → btwR a b (x k) = true) : btwR a b (sumN (fun k => w k * x k) n) = true := by
  rcases Rat.le_total (a := a) (b := b) with g | g
  · have hk : ∀ k, k < n → a ≤ x k ∧ x k ≤ b := fun k hk => by
      rcases btwR_iff.mp (h k hk) with e | e
      · exact e
      · have : a = b := by have := e.1; have := e.2; grind
        exact ⟨by grind, by grind⟩
    exact btwR_iff.mpr (.inl ⟨mean_ge h0 h1 fun k q => (hk k q).1, mean_le h0 h1 fun k q => (hk k q).2⟩)
  · have hk : ∀ k, k < n → b ≤ x k ∧ x k ≤ a := fun k hk => by
      rcases btwR_iff.mp (h k hk) with e | e
      · have : a = b := by have := e.1; have := e.2; grind
        exact ⟨by grind, by grind⟩
      · exact e
    exact btwR_iff.mpr (.inr ⟨mean_ge h0 h1 fun k q => (hk k q).1, mean_le h0 h1 fun k q => (hk k q).2⟩)
theorem crR_mean {w : Nat → Rat} {q : Nat → Pt} {n : Nat} (a b : Pt) (h1 : sumN w n = 1) : crR a b (mean w q n) = sumN (fun k => w k * crR a b (q k)) n := by
  have e : (fun k => w k * crR a b (q k)) = fun k => w k * (-(b.2 - a.2) * (q k).1 + (b.1 - a.1) * (q k).2 + (-(b.1 - a.1) * a.2 + (b.2 - a.2) * a.1)) := by funext k; unfold crR; grind
  rw [e, mean_lin (x := fun k => (q k).1) (y := fun k => (q k).2) _ _ _ h1]
  unfold crR mean
  grind
theorem sumN_zero : ∀ n : Nat, sumN (fun _ => (0 : Rat)) n = 0
  | 0 => rfl
  | n + 1 => by show sumN _ n + 0 = 0; rw [sumN_zero n]; grind
theorem with_mean {cs : List Pt} {w : Nat → Rat} {q : Nat → Pt} {n : Nat} (h0 : ∀ k, k < n → 0 ≤ w k) (h1 : sumN w n = 1) (h : ∀ k, k < n → withR cs (q k) = true) : withR cs (mean w q n) = true := by
  unfold withR at h ⊢
  by_cases c1 : cs.length = 1
  · simp only [if_pos c1, decide_eq_true_eq] at h ⊢
    have f : ∀ g : Pt → Rat, sumN (fun k => w k * g (q k)) n = g (gp cs 0) := fun g => by
      have e : sumN (fun k => w k * g (q k)) n = sumN (fun k => w k * (0 * g (q k) + 0 * g (q k) + g (gp cs 0))) n := sumN_congr fun k hk => by rw [h k hk]; grind
      rw [e, mean_lin (x := fun k => g (q k)) (y := fun k => g (q k)) 0 0 (g (gp cs 0)) h1]
      grind
    exact Prod.ext (f Prod.fst) (f Prod.snd)
  · by_cases c2 : cs.length = 2
    · simp only [if_neg c1, if_pos c2, Bool.and_eq_true, decide_eq_true_eq] at h ⊢
      refine ⟨?_, btw_mean h0 h1 fun k hk => (h k hk).2.1, btw_mean h0 h1 fun k hk => (h k hk).2.2⟩
      rw [crR_mean _ _ h1, sumN_congr (g := fun _ => 0) fun k hk => by rw [(h k hk).1]; grind]
      exact sumN_zero n
    · simp only [if_neg c1, if_neg c2, List.all_eq_true, decide_eq_true_eq] at h ⊢
      intro k hk
      rw [crR_mean _ _ h1]
      exact Rat.not_lt.mpr (sumN_nn fun j hj => Rat.mul_nonneg (h0 j hj) (Rat.not_lt.mp (h j hj k hk)))
theorem bern_nn {n k : Nat} {t : Rat} (h0 : 0 ≤ t) (h1 : t ≤ 1) : 0 ≤ bern n k t := by
  unfold bern
  have hp : ∀ (x : Rat) (m : Nat), 0 ≤ x → 0 ≤ x ^ m := fun x m hx => by
    induction m with
    | zero => rw [Rat.pow_zero]; decide
    | succ m ih => rw [Rat.pow_succ]; exact Rat.mul_nonneg ih hx
  have hc : (0 : Rat) ≤ (ch n k : Rat) := by exact_mod_cast Nat.zero_le (ch n k)
  exact Rat.mul_nonneg hc (Rat.mul_nonneg (hp t k h0) (hp (1 - t) (n - k) (by grind)))
theorem point_mean {t : Rat} {row : List Pt} (h : 0 < row.length) : pointR t row = mean (fun k => bern (row.length - 1) k t) (gp row) row.length := point_bern h
theorem bern_one {row : List Pt} (h : 0 < row.length) (t : Rat) : sumN (fun k => bern (row.length - 1) k t) row.length = 1 := by
  have := bern_sum (row.length - 1) t
  rw [show row.length - 1 + 1 = row.length by omega] at this
  exact this
/-- a point of a curve lies in the hull of its seats -/
theorem point_in {B : Int} {zs : List Ip} {t : Rat} (hB : 0 < B) (h : 0 < zs.length) (h0 : 0 ≤ t) (h1 : t ≤ 1) : withR ((cornersI zs).map (ptC B)) (pointR t (zs.map (ptC B))) = true := by
  have hl : 0 < (zs.map (ptC B)).length := by rw [List.length_map]; exact h
  rw [point_mean hl]
  refine with_mean (fun k _ => bern_nn h0 h1) (bern_one hl t) fun k hk => ?_
  rw [List.length_map] at hk
  rw [ptC_gp, with_eq hB]
  exact within_all (gi_mem hk)
theorem lo_le : ∀ (xs : List Rat) (f : Rat), xs.foldl lo2 f ≤ f ∧ ∀ x ∈ xs, xs.foldl lo2 f ≤ x
  | [], f => ⟨Rat.le_refl, fun x hx => nomatch hx⟩
  | y :: r, f => by
    obtain ⟨h1, h2⟩ := lo_le r (lo2 f y)
    have e : lo2 f y ≤ f ∧ lo2 f y ≤ y := by
      unfold lo2
      split
      · rename_i h; exact ⟨Rat.le_of_lt h, Rat.le_refl⟩
      · rename_i h; exact ⟨Rat.le_refl, Rat.not_lt.mp h⟩
    refine ⟨Rat.le_trans h1 e.1, fun x hx => ?_⟩
    rcases List.mem_cons.mp hx with g | g
    · rw [g]; exact Rat.le_trans h1 e.2
    · exact h2 x g
theorem hi_ge : ∀ (xs : List Rat) (f : Rat), f ≤ xs.foldl hi2 f ∧ ∀ x ∈ xs, x ≤ xs.foldl hi2 f
  | [], f => ⟨Rat.le_refl, fun x hx => nomatch hx⟩
  | y :: r, f => by
    obtain ⟨h1, h2⟩ := hi_ge r (hi2 f y)
    have e : f ≤ hi2 f y ∧ y ≤ hi2 f y := by
      unfold hi2
      split
      · rename_i h; exact ⟨Rat.le_of_lt h, Rat.le_refl⟩
      · rename_i h; exact ⟨Rat.le_refl, Rat.not_lt.mp h⟩
    refine ⟨Rat.le_trans e.1 h1, fun x hx => ?_⟩
    rcases List.mem_cons.mp hx with g | g
    · rw [g]; exact Rat.le_trans e.2 h1
    · exact h2 x g
theorem point_box {t : Rat} {row : List Pt} (h : 0 < row.length) (h0 : 0 ≤ t) (h1 : t ≤ 1) : (leastR (row.map Prod.fst) ≤ (pointR t row).1 ∧ (pointR t row).1 ≤ greatR (row.map Prod.fst)) ∧ (leastR (row.map Prod.snd) ≤ (pointR t row).2 ∧ (pointR t row).2 ≤ greatR (row.map Prod.snd)) := by
  rw [point_mean h]
  have m1 : ∀ k, k < row.length → (gp row k).1 ∈ row.map Prod.fst := fun k hk => List.mem_map.mpr ⟨_, gp_mem hk, rfl⟩
  have m2 : ∀ k, k < row.length → (gp row k).2 ∈ row.map Prod.snd := fun k hk => List.mem_map.mpr ⟨_, gp_mem hk, rfl⟩
  exact ⟨⟨mean_ge (fun k _ => bern_nn h0 h1) (bern_one h t) fun k hk => (lo_le _ _).2 _ (m1 k hk), mean_le (fun k _ => bern_nn h0 h1) (bern_one h t) fun k hk => (hi_ge _ _).2 _ (m1 k hk)⟩,
    ⟨mean_ge (fun k _ => bern_nn h0 h1) (bern_one h t) fun k hk => (lo_le _ _).2 _ (m2 k hk), mean_le (fun k _ => bern_nn h0 h1) (bern_one h t) fun k hk => (hi_ge _ _).2 _ (m2 k hk)⟩⟩
/-! ### weights of two lists of points -/
def SepL (a b c : Rat) (r s : List Pt) : Prop := (∀ p ∈ r, a * p.1 + b * p.2 < c) ∧ ∀ p ∈ s, c < a * p.1 + b * p.2
structure CmOk (us vs : List Rat) (r s : List Pt) : Prop where
  lu : us.length = r.length
  lv : vs.length = s.length
  nu : ∀ u ∈ us, 0 ≤ u
  nv : ∀ v ∈ vs, 0 ≤ v
  su : sumN (fun i => us.getD i 0) us.length = 1
  sv : sumN (fun i => vs.getD i 0) vs.length = 1
  x : sumN (fun i => us.getD i 0 * (gp r i).1) us.length = sumN (fun i => vs.getD i 0 * (gp s i).1) vs.length
  y : sumN (fun i => us.getD i 0 * (gp r i).2) us.length = sumN (fun i => vs.getD i 0 * (gp s i).2) vs.length
/-- the hulls have a common point -/
def HM (r s : List Pt) : Prop := ∃ us vs, CmOk us vs r s
theorem sumN_lt {f : Nat → Rat} {c : Rat} {w : Nat → Rat} {n : Nat} (h0 : ∀ k, k < n → 0 ≤ w k) (h1 : sumN w n = 1) (h : ∀ k, k < n → f k < c) : sumN (fun k => w k * f k) n < c := by
  have key : ∀ m, m ≤ n → sumN (fun k => w k * f k) m ≤ c * sumN w m ∧ (sumN (fun k => w k * f k) m = c * sumN w m → sumN w m = 0) := by
    intro m
    induction m with
    | zero => intro _; exact ⟨by show (0 : Rat) ≤ c * 0; grind, fun _ => rfl⟩
    | succ m ih =>
      intro hm
      obtain ⟨i1, i2⟩ := ih (by omega)
      have hw := h0 m (by omega)
      have hf := h m (by omega)
      have hle : w m * f m ≤ w m * c := Rat.mul_le_mul_of_nonneg_left (Rat.le_of_lt hf) hw
      show sumN _ m + w m * f m ≤ c * (sumN w m + w m) ∧ (sumN _ m + w m * f m = c * (sumN w m + w m) → sumN w m + w m = 0)
      refine ⟨by grind, fun e => ?_⟩
      have e1 : sumN (fun k => w k * f k) m = c * sumN w m := by grind
      have e2 : w m * f m = w m * c := by grind
      have e3 : w m = 0 := by
        refine Classical.byContradiction fun hn => ?_
        have hp : 0 < w m := Rat.lt_of_le_of_ne hw (fun e => hn e.symm)
        have := Rat.mul_lt_mul_of_pos_left hf hp
        grind
      rw [i2 e1, e3]; grind
  obtain ⟨k1, k2⟩ := key n (Nat.le_refl _)
  rw [h1] at k1 k2
  refine Rat.lt_of_le_of_ne (by grind) fun e => ?_
  have := k2 (by grind)
  grind
theorem getD_nn {us : List Rat} (h : ∀ u ∈ us, 0 ≤ u) (k : Nat) : 0 ≤ us.getD k 0 := by
  by_cases hk : k < us.length
  · exact getD_in (P := fun u : Rat => 0 ≤ u) h hk
  · rw [List.getD_eq_getElem?_getD, List.getElem?_eq_none (by omega)]; exact Rat.le_refl
theorem sumN_lin {w x y : Nat → Rat} (a b : Rat) : ∀ n, sumN (fun k => w k * (a * x k + b * y k)) n = a * sumN (fun k => w k * x k) n + b * sumN (fun k => w k * y k) n
  | 0 => by show (0 : Rat) = a * 0 + b * 0; grind
  | n + 1 => by
    show sumN _ n + w n * (a * x n + b * y n) = a * (sumN _ n + w n * x n) + b * (sumN _ n + w n * y n)
    rw [sumN_lin a b n]; grind
theorem sep_not {a b c : Rat} {r s : List Pt} (h : SepL a b c r s) : ¬ HM r s := by
  rintro ⟨us, vs, hc⟩
  have h1 := sumN_lt (f := fun k => a * (gp r k).1 + b * (gp r k).2) (c := c) (fun k _ => getD_nn hc.nu k) hc.su (fun k hk => h.1 _ (gp_mem (by rw [← hc.lu]; exact hk)))
  have h2 := sumN_lt (f := fun k => (-a) * (gp s k).1 + (-b) * (gp s k).2) (c := -c) (fun k _ => getD_nn hc.nv k) hc.sv (fun k hk => by have := h.2 _ (gp_mem (show k < s.length by rw [← hc.lv]; exact hk)); grind)
  rw [sumN_lin] at h1 h2
  have hx := hc.x
  have hy := hc.y
  grind
/-! sums of lists that are set -/
theorem getD_set_same {us : List Rat} {i : Nat} {v : Rat} (h : i < us.length) : (us.set i v).getD i 0 = v := by rw [List.getD_eq_getElem?_getD, List.getElem?_set_self h]; rfl
theorem getD_set_ne {us : List Rat} {i k : Nat} {v : Rat} (h : k ≠ i) : (us.set i v).getD k 0 = us.getD k 0 := by rw [List.getD_eq_getElem?_getD, List.getD_eq_getElem?_getD, List.getElem?_set_ne (fun e => h e.symm)]
theorem sum_set {us : List Rat} {i : Nat} {x : Rat} (f : Nat → Rat) (hi : i < us.length) : ∀ n, sumN (fun k => (us.set i (us.getD i 0 + x)).getD k 0 * f k) n = sumN (fun k => us.getD k 0 * f k) n + (if i < n then x * f i else 0)
  | 0 => by show (0 : Rat) = 0 + _; rw [if_neg (by omega)]; grind
  | n + 1 => by
    show sumN _ n + _ * f n = sumN _ n + _ * f n + _
    rw [sum_set f hi n]
    by_cases h : n = i
    · subst h
      rw [if_neg (Nat.lt_irrefl _), if_pos (Nat.lt_succ_self _), getD_set_same hi]; grind
    · rw [getD_set_ne h]
      by_cases h2 : i < n
      · rw [if_pos h2, if_pos (by omega)]; grind
      · rw [if_neg h2, if_neg (by omega)]; grind
/-- what stands behind n parts -/
def accN (many : Nat) (ix : Nat → Nat) (w : Nat → Rat) : Nat → List Rat
  | 0 => List.replicate many 0
  | n + 1 => (accN many ix w n).set (ix n) ((accN many ix w n).getD (ix n) 0 + w n)
theorem accN_len (many : Nat) (ix : Nat → Nat) (w : Nat → Rat) : ∀ n, (accN many ix w n).length = many
  | 0 => List.length_replicate ..
  | n + 1 => by show (List.set ..).length = _; rw [List.length_set, accN_len many ix w n]
theorem rep_getD (many k : Nat) : (List.replicate many (0 : Rat)).getD k 0 = 0 := by
  rw [List.getD_eq_getElem?_getD, List.getElem?_replicate]
  split <;> rfl
theorem accN_sum {many : Nat} {ix : Nat → Nat} {w : Nat → Rat} (f : Nat → Rat) : ∀ n, (∀ k, k < n → ix k < many) → sumN (fun k => (accN many ix w n).getD k 0 * f k) many = sumN (fun k => w k * f (ix k)) n
  | 0, _ => by
    show sumN (fun k => (List.replicate many (0 : Rat)).getD k 0 * f k) many = 0
    have : ∀ m, sumN (fun k => (List.replicate many (0 : Rat)).getD k 0 * f k) m = 0 := fun m => by
      induction m with
      | zero => rfl
      | succ m ih => show sumN _ m + _ * f m = 0; rw [ih, rep_getD]; grind
    exact this many
  | n + 1, h => by
    show sumN (fun k => ((accN many ix w n).set (ix n) ((accN many ix w n).getD (ix n) 0 + w n)).getD k 0 * f k) many = sumN _ n + w n * f (ix n)
    rw [sum_set f (by rw [accN_len]; exact h n (Nat.lt_succ_self _)), if_pos (h n (Nat.lt_succ_self _)), accN_sum f n fun k hk => h k (by omega)]
theorem accN_nn {many : Nat} {ix : Nat → Nat} {w : Nat → Rat} : ∀ n, (∀ k, k < n → 0 ≤ w k) → ∀ u ∈ accN many ix w n, 0 ≤ u
  | 0, _, u, hu => by rw [List.eq_of_mem_replicate hu]; exact Rat.le_refl
  | n + 1, h, u, hu => by
    have ih := accN_nn (many := many) (ix := ix) (w := w) n fun k hk => h k (by omega)
    rcases List.mem_or_eq_of_mem_set hu with hu | rfl
    · exact ih u hu
    · have h1 := getD_nn ih (ix n)
      have h2 := h n (Nat.lt_succ_self _)
      grind
theorem accN_ov {many : Nat} {ix : Nat → Nat} {w : Nat → Rat} {B : Int} {m : Nat} : ∀ n, (∀ k, k < n → Ov B m (w k)) → ∀ i, Ov B (m + n) ((accN many ix w n).getD i 0)
  | 0, _, i => by
    show Ov B m ((List.replicate many (0 : Rat)).getD i 0)
    rw [rep_getD]; exact ⟨0, by push_cast; grind, Nat.pow_pos (by decide)⟩
  | n + 1, h, i => by
    have ih := accN_ov (many := many) (ix := ix) (w := w) (B := B) (m := m) n fun k hk => h k (by omega)
    show Ov B (m + (n + 1)) (((accN many ix w n).set (ix n) ((accN many ix w n).getD (ix n) 0 + w n)).getD i 0)
    by_cases e : i = ix n
    · subst e
      by_cases hl : ix n < (accN many ix w n).length
      · rw [getD_set_same hl]
        exact (ov_add (ih (ix n)) (h n (Nat.lt_succ_self _))).up (by omega)
      · rw [List.getD_eq_getElem?_getD, List.getElem?_eq_none (by rw [List.length_set]; omega)]
        exact ⟨0, by show (0 : Rat) = _; push_cast; grind, Nat.pow_pos (by decide)⟩
    · rw [getD_set_ne e]; exact (ih i).up (by omega)
/-- the sums of a list of parts -/
theorem sum_getD (ps : List (Ip × Int)) (g : Ip × Int → Int) : ((ps.map g).sum : Rat) = sumN (fun k => (g (ps.getD k ((0, 0), 0)) : Rat)) ps.length := by
  have key : ∀ (l : List (Ip × Int)), ((l.map g).sum : Rat) = sumN (fun k => (g (l.getD k ((0, 0), 0)) : Rat)) l.length := by
    intro l
    induction l with
    | nil => simp [sumN]
    | cons q l ih =>
      rw [List.map_cons, List.sum_cons, List.length_cons, sumN_first, Rat.intCast_add, ih]
      rfl
  exact key ps
theorem sumN_mulc {f : Nat → Rat} (c : Rat) : ∀ n, sumN (fun k => c * f k) n = c * sumN f n
  | 0 => by show (0 : Rat) = c * 0; grind
  | n + 1 => by show sumN _ n + c * f n = c * (sumN f n + f n); rw [sumN_mulc c n]; grind
theorem sumN_sub {f g : Nat → Rat} : ∀ n, sumN (fun k => f k - g k) n = sumN f n - sumN g n
  | 0 => by show (0 : Rat) = 0 - 0; grind
  | n + 1 => by show sumN _ n + (f n - g n) = (sumN f n + f n) - (sumN g n + g n); rw [sumN_sub n]; grind
theorem sumN_cg {f g : Nat → Rat} : ∀ n, (∀ k, k < n → f k = g k) → sumN f n = sumN g n
  | 0, _ => rfl
  | n + 1, h => by show sumN f n + f n = sumN g n + g n; rw [sumN_cg n fun k hk => h k (by omega), h n (Nat.lt_succ_self _)]
theorem sub0 {a b : Rat} (h : a - b = 0) : b = a := by grind
theorem frac3 (S b y x m : Rat) : m / S * (y / b) - m / S * (x / b) = (1 / S * (1 / b)) * (m * (y - x)) := by grind
/-- the parts as weights -/
theorem cm_of {xs ys : List Ip} {b : Int} (hb : 0 < b) {cs : List Ip} {ps : List (Ip × Int)} (h : PartsOk cs ps) {is js : Nat → Nat} (hi : ∀ t, t < ps.length → is t < xs.length ∧ js t < ys.length ∧ (ps.getD t ((0, 0), 0)).1 = sb (gi ys (js t)) (gi xs (is t))) :
    CmOk (accN xs.length is (fun t => ((ps.getD t ((0, 0), 0)).2 : Rat) / (pSum ps : Rat)) ps.length) (accN ys.length js (fun t => ((ps.getD t ((0, 0), 0)).2 : Rat) / (pSum ps : Rat)) ps.length) (xs.map (ptC b)) (ys.map (ptC b)) := by
  have hp : (0 : Rat) < (pSum ps : Rat) := by exact_mod_cast h.pos
  have hp0 : (pSum ps : Rat) ≠ 0 := fun e => by rw [e] at hp; exact Rat.lt_irrefl hp
  have hb0 : (b : Rat) ≠ 0 := by exact_mod_cast (show b ≠ 0 by omega)
  obtain ⟨w, hw⟩ : ∃ w : Nat → Rat, w = fun t => ((ps.getD t ((0, 0), 0)).2 : Rat) / (pSum ps : Rat) := ⟨_, rfl⟩
  rw [← hw]
  have hnn : ∀ t, t < ps.length → 0 ≤ w t := fun t ht => by
    have h1 : (0 : Int) ≤ (ps.getD t ((0, 0), 0)).2 := h.nn _ (by rw [List.getD_eq_getElem?_getD, List.getElem?_eq_getElem ht]; exact List.getElem_mem ht)
    have h2 : (0 : Rat) ≤ ((ps.getD t ((0, 0), 0)).2 : Rat) := by exact_mod_cast h1
    rw [hw]
    show 0 ≤ ((ps.getD t ((0, 0), 0)).2 : Rat) / (pSum ps : Rat)
    rw [Rat.div_def]
    exact Rat.mul_nonneg h2 (Rat.le_of_lt (Rat.inv_pos.mpr hp))
  have hs1 : sumN w ps.length = 1 := by
    have e := sum_getD ps (·.2)
    have e2 : sumN w ps.length = (1 / (pSum ps : Rat)) * sumN (fun k => ((ps.getD k ((0, 0), 0)).2 : Rat)) ps.length := by
      rw [← sumN_mulc]
      exact sumN_cg _ fun k _ => by rw [hw]; grind
    rw [e2, ← e]
    show 1 / (pSum ps : Rat) * (pSum ps : Rat) = 1
    exact Rat.div_mul_cancel hp0
  have mom : ∀ (g : Ip → Int), (∀ p q : Ip, g (sb p q) = g p - g q) → ((ps.map fun q => q.2 * g q.1).sum = 0) → sumN (fun t => w t * ((g (gi xs (is t)) : Rat) / (b : Rat))) ps.length = sumN (fun t => w t * ((g (gi ys (js t)) : Rat) / (b : Rat))) ps.length := fun g hg h0 => by
    have e := sum_getD ps (fun q => q.2 * g q.1)
    rw [h0] at e
    have e2 : sumN (fun t => w t * ((g (gi ys (js t)) : Rat) / (b : Rat)) - w t * ((g (gi xs (is t)) : Rat) / (b : Rat))) ps.length = (1 / (pSum ps : Rat) * (1 / (b : Rat))) * sumN (fun k => (((ps.getD k ((0, 0), 0)).2 * g (ps.getD k ((0, 0), 0)).1 : Int) : Rat)) ps.length := by
      rw [← sumN_mulc]
      refine sumN_cg _ fun k hk => ?_
      rw [(hi k hk).2.2, hg, hw, Rat.intCast_mul, Rat.intCast_sub]
      exact frac3 _ _ _ _ _
    rw [sumN_sub, ← e] at e2
    have : sumN (fun t => w t * ((g (gi ys (js t)) : Rat) / (b : Rat))) ps.length - sumN (fun t => w t * ((g (gi xs (is t)) : Rat) / (b : Rat))) ps.length = 0 := by rw [e2]; exact Rat.mul_zero _
    exact sub0 this
  have hx := mom (·.1) (fun p q => rfl) h.x
  have hy := mom (·.2) (fun p q => rfl) h.y
  have li := accN_len xs.length is w ps.length
  have lj := accN_len ys.length js w ps.length
  have ax := fun f => accN_sum (many := xs.length) (ix := is) (w := w) f ps.length fun k hk => (hi k hk).1
  have ay := fun f => accN_sum (many := ys.length) (ix := js) (w := w) f ps.length fun k hk => (hi k hk).2.1
  have one : ∀ us : List Rat, ∀ n, sumN (fun i => us.getD i 0) n = sumN (fun i => us.getD i 0 * 1) n := fun us n => sumN_cg n fun k _ => by grind
  refine ⟨by rw [li, List.length_map], by rw [lj, List.length_map], accN_nn _ hnn, accN_nn _ hnn, ?_, ?_, ?_, ?_⟩
  · rw [li, one, ax fun _ => 1]
    rw [← hs1]; exact sumN_cg _ fun k _ => by grind
  · rw [lj, one, ay fun _ => 1]
    rw [← hs1]; exact sumN_cg _ fun k _ => by grind
  · rw [li, lj, ax fun k => (gp (xs.map (ptC b)) k).1, ay fun k => (gp (ys.map (ptC b)) k).1]
    have c1 : ∀ zs : List Ip, ∀ k, (gp (zs.map (ptC b)) k).1 = ((gi zs k).1 : Rat) / (b : Rat) := fun zs k => by rw [ptC_gp]; rfl
    rw [sumN_cg _ fun k _ => by rw [c1 xs], sumN_cg (f := fun k => w k * (gp (ys.map (ptC b)) (js k)).1) _ fun k _ => by rw [c1 ys]]
    exact hx
  · rw [li, lj, ax fun k => (gp (xs.map (ptC b)) k).2, ay fun k => (gp (ys.map (ptC b)) k).2]
    have c1 : ∀ zs : List Ip, ∀ k, (gp (zs.map (ptC b)) k).2 = ((gi zs k).2 : Rat) / (b : Rat) := fun zs k => by rw [ptC_gp]; rfl
    rw [sumN_cg _ fun k _ => by rw [c1 xs], sumN_cg (f := fun k => w k * (gp (ys.map (ptC b)) (js k)).2) _ fun k _ => by rw [c1 ys]]
    exact hy
/-- the line -/
theorem sep_of {xs ys : List Ip} {b : Int} (hb : 0 < b) {w : Ip} (hx : 0 < xs.length) (hy : 0 < ys.length) (h : ∀ x ∈ xs, ∀ y ∈ ys, 0 < dtI w (sb y x)) :
    SepL (w.1 : Rat) (w.2 : Rat) (((maxI (xs.map (dtI w)) + minI (ys.map (dtI w)) : Int) : Rat) / ((2 * b : Int) : Rat)) (xs.map (ptC b)) (ys.map (ptC b)) := by
  have hm := maxI_ok (xs.map (dtI w)) (by rw [List.length_map]; exact hx)
  have hn := minI_ok (ys.map (dtI w)) (by rw [List.length_map]; exact hy)
  obtain ⟨x0, hx0, ex⟩ := List.mem_map.mp hm.1
  obtain ⟨y0, hy0, ey⟩ := List.mem_map.mp hn.1
  have hlt : maxI (xs.map (dtI w)) < minI (ys.map (dtI w)) := by
    have := h x0 hx0 y0 hy0
    rw [← ex, ← ey]
    have e9 : dtI w (sb y0 x0) = dtI w y0 - dtI w x0 := by unfold dtI sb; grind
    omega
  have hb0 : (b : Rat) ≠ 0 := by exact_mod_cast (show b ≠ 0 by omega)
  have hbp : (0 : Rat) < (b : Rat) := by exact_mod_cast hb
  have val : ∀ z : Ip, (w.1 : Rat) * (ptC b z).1 + (w.2 : Rat) * (ptC b z).2 = ((2 * dtI w z : Int) : Rat) / ((2 * b : Int) : Rat) := fun z => by
    show (w.1 : Rat) * ((z.1 : Rat) / (b : Rat)) + (w.2 : Rat) * ((z.2 : Rat) / (b : Rat)) = _
    unfold dtI
    push_cast
    grind
  constructor
  · intro p hp
    obtain ⟨z, hz, rfl⟩ := List.mem_map.mp hp
    rw [val]
    refine (div_lt (by omega)).mpr ?_
    have := hm.2 (dtI w z) (List.mem_map.mpr ⟨z, hz, rfl⟩)
    omega
  · intro p hp
    obtain ⟨z, hz, rfl⟩ := List.mem_map.mp hp
    rw [val]
    refine (div_lt (by omega)).mpr ?_
    have := hn.2 (dtI w z) (List.mem_map.mpr ⟨z, hz, rfl⟩)
    omega
theorem aupd_swap {A : AH} {p q : Addr} {o o' u : AO} (h : q ≠ p) : aupd (aupd (aupd A p o) q o') p u = aupd (aupd A p u) q o' := by
  funext z
  by_cases h1 : z = p
  · subst h1; rw [aupd_same, aupd_ne (fun e => h e.symm), aupd_same]
  · by_cases h2 : z = q
    · subst h2; rw [aupd_ne h1, aupd_same, aupd_same]
    · rw [aupd_ne h1, aupd_ne h2, aupd_ne h1, aupd_ne h2, aupd_ne h1]
theorem at_notNone {X : Cx} {ρ : Ro} {A : AH} {a : Expr} {pos p2 : Pos} {j : Nat} {ds : List D} (ha : AV X a ρ A (.tup ds)) : AT X (.Compare a [.IsNot] [.Constant .none j p2] pos) ρ A true :=
  at_cmp (y := .non) op_notN (nomark _) ha av_non fun v u H r1 r2 l Q q => by
    obtain ⟨c, vs, rfl, h1, h2⟩ := r1.tup_of
    exact ⟨r2.non_of, q H (TS.refl H) l⟩
theorem at_notNone0 {X : Cx} {ρ : Ro} {A : AH} {a : Expr} {pos p2 : Pos} {j : Nat} (ha : AV X a ρ A .non) : AT X (.Compare a [.IsNot] [.Constant .none j p2] pos) ρ A false :=
  at_cmp (y := .non) op_notN (nomark _) ha av_non fun v u H r1 r2 l Q q => by
    rw [r1.non_of]
    exact ⟨r2.non_of, q H (TS.refl H) l⟩
theorem parts_pick {xs ys : List Ip} {st : List (Ip × Ip)} {ps : List (Ip × Int)} {cs : List Ip} (hS : StP xs ys xs.length 0 st) (h : PartsOk cs ps) (hc : ∀ c ∈ cs, ∃ q ∈ st, q.1 = c) :
    ∃ is js : Nat → Nat, ∀ t, t < ps.length → is t < xs.length ∧ js t < ys.length ∧ (ps.getD t ((0, 0), 0)).1 = sb (gi ys (js t)) (gi xs (is t)) ∧ lkD (kvsS st) (keyI (ps.getD t ((0, 0), 0)).1) = some (ip ((is t : Int), (js t : Int))) := by
  have key : ∀ t : Nat, ∃ ab : Nat × Nat, t < ps.length → ab.1 < xs.length ∧ ab.2 < ys.length ∧ (ps.getD t ((0, 0), 0)).1 = sb (gi ys ab.2) (gi xs ab.1) ∧ lkD (kvsS st) (keyI (ps.getD t ((0, 0), 0)).1) = some (ip ((ab.1 : Int), (ab.2 : Int))) := fun t => by
    by_cases ht : t < ps.length
    · have hm : ps.getD t ((0, 0), 0) ∈ ps := by rw [List.getD_eq_getElem?_getD, List.getElem?_eq_getElem ht]; exact List.getElem_mem ht
      obtain ⟨q, hq, e1, e2⟩ := lk_there (hc _ (h.mem _ hm))
      obtain ⟨a, b, ha, hb, e3⟩ := hS.sub q hq
      refine ⟨(a, b), fun _ => ⟨ha, hb, ?_, ?_⟩⟩
      · rw [← e1, e3]
      · rw [e2, e3]
    · exact ⟨(0, 0), fun h => absurd h ht⟩
  obtain ⟨f, hf⟩ := Classical.axiomOfChoice key
  exact ⟨fun t => (f t).1, fun t => (f t).2, hf⟩
theorem dt_bt {m : Nat} {a b : Ip} (ha : a.1.natAbs < 2 ^ m ∧ a.2.natAbs < 2 ^ m) (hb : b.1.natAbs < 2 ^ m ∧ b.2.natAbs < 2 ^ m) : (dtI a b).natAbs < 2 ^ (2 * m + 1) := bt_le (bt_add (bt_mul ha.1 hb.1) (bt_mul ha.2 hb.2)) (by omega)
theorem whole_bdl {row : List Pt} {b Bt : Int} {m : Nat} (hB : 0 < Bt) (hBz : Bt.natAbs < 2 ^ m) (hb : 0 < b) (hd : b ∣ Bt) (hz : ∀ p ∈ row, SzP m p) : Bdl (2 * m) (row.map (wholeC b)) := fun z hz9 => by
  obtain ⟨p, hp, rfl⟩ := List.mem_map.mp hz9
  have hbz : b.natAbs < 2 ^ m := by have := Int.le_of_dvd hB hd; omega
  have zp := hz p hp
  have hq : ∀ d : Nat, (b / (d : Int)).natAbs < 2 ^ m := fun d => by
    have h1 := Int.ediv_nonneg (a := b) (b := (d : Int)) (by omega) (by omega)
    have h2 := Int.ediv_le_self (a := b) (d : Int) (by omega)
    omega
  exact ⟨bt_le (bt_mul zp.1.num (hq _)) (by omega), bt_le (bt_mul zp.2.num (hq _)) (by omega)⟩
theorem sb_bdl {m : Nat} {xs ys : List Ip} {st : List (Ip × Ip)} (hx : Bdl m xs) (hy : Bdl m ys) (hS : StP xs ys xs.length 0 st) : Bdl (m + 1) (st.map (·.1)) := fun z hz => by
  obtain ⟨q, hq, rfl⟩ := List.mem_map.mp hz
  obtain ⟨a, b, _, _, rfl⟩ := hS.sub q hq
  exact ⟨bt_le (bt_sub (hy.gi b).1 (hx.gi a).1) (by omega), bt_le (bt_sub (hy.gi b).2 (hx.gi a).2) (by omega)⟩
theorem pSum_bt {ps : List (Ip × Int)} {m : Nat} (hl : ps.length ≤ 3) (h : ∀ q ∈ ps, q.2.natAbs < 2 ^ m) : (pSum ps).natAbs < 2 ^ (m + 3) := by
  have key : ∀ l : List (Ip × Int), (∀ q ∈ l, q.2.natAbs < 2 ^ m) → (pSum l).natAbs ≤ l.length * 2 ^ m := by
    intro l
    induction l with
    | nil => intro _; exact Nat.zero_le _
    | cons q l ih =>
      intro h
      have h1 := ih fun r hr => h r (List.mem_cons_of_mem _ hr)
      have h2 := h q (List.mem_cons_self ..)
      have e : pSum (q :: l) = q.2 + pSum l := rfl
      rw [e, List.length_cons, Nat.succ_mul]
      omega
  have h1 := key ps h
  have h2 : ps.length * 2 ^ m ≤ 3 * 2 ^ m := Nat.mul_le_mul_right _ hl
  have h3 : 0 < 2 ^ m := Nat.pow_pos (by decide)
  rw [Nat.pow_add]
  omega
theorem rep_map (n : Nat) : (List.range n).map (fun _ => (0 : Rat)) = List.replicate n 0 := by
  apply List.ext_getElem
  · simp
  · intro i h1 h2; simp
theorem ixI {n m : Nat} (h : m < n) : ixN n (m : Int) = some m := by
  have := ixN_z (n := n) (i := (m : Int)) (by omega) (by omega)
  rw [Int.toNat_natCast] at this
  exact this
theorem ahW_bt {cs : List Ip} {m M : Nat} {w : Ip} (hz : Bdl m cs) (hM : m + 1 ≤ M) (h : AhW cs w) : w.1.natAbs < 2 ^ M ∧ w.2.natAbs < 2 ^ M := by
  have g := fun i => hz.gi i
  have sub : ∀ i j, (((gi cs i).2 - (gi cs j).2).natAbs < 2 ^ M ∧ ((gi cs j).1 - (gi cs i).1).natAbs < 2 ^ M) := fun i j => ⟨bt_le (bt_sub (g i).2 (g j).2) (by omega), bt_le (bt_sub (g j).1 (g i).1) (by omega)⟩
  rcases h with ⟨_, _, rfl⟩ | ⟨_, h⟩ | ⟨_, k, _, _, rfl⟩
  · exact ⟨bt_le (g 0).1 (by omega), bt_le (g 0).2 (by omega)⟩
  · rcases h with ⟨_, rfl⟩ | ⟨_, rfl⟩ | ⟨_, _, rfl⟩
    · have := sub 0 1
      refine ⟨?_, ?_⟩
      · show (0 - ((gi cs 0).2 - (gi cs 1).2)).natAbs < 2 ^ M; omega
      · show (0 - ((gi cs 1).1 - (gi cs 0).1)).natAbs < 2 ^ M; omega
    · exact sub 0 1
    · exact ⟨bt_le (g 0).1 (by omega), bt_le (g 0).2 (by omega)⟩
  · exact sub _ _
/-- curves each of which joins the next one -/
def Jnd (cs : List (List Pt)) : Prop := ∀ j, j + 1 < cs.length → gp (cs.getD j []) ((cs.getD j []).length - 1) = gp (cs.getD (j + 1) []) 0
def Lns (l : Nat) (cs : List (List Pt)) : Prop := ∀ j, j < cs.length → 0 < (cs.getD j []).length ∧ (cs.getD j []).length ≤ l
/-- a path at p -/
def IsPath (C : Addr) (A : AH) (p : Addr) (cs : List (List Pt)) : Prop := ∃ y, A p = some (.ins C y [("parts", .fz (cs.map (fzs pt)))])
/-- the number of the curve at a share -/
def numR (t : Rat) (n : Nat) : Int := min (t.num / (t.den : Int)) ((n : Int) - 1)
theorem getD_all {α : Type} (d : α) (cs : List α) : (List.range cs.length).map (fun i => cs.getD i d) = cs := by
  apply List.ext_getElem
  · simp
  · intro i h1 h2
    rw [List.getElem_map, List.getElem_range, List.getD_eq_getElem?_getD, List.getElem?_eq_getElem h2]; rfl
theorem getD_ll {α : Type} (d : α) {cs : List α} {j : Nat} (h : j < cs.length) : cs.getD j d ∈ cs := by
  rw [List.getD_eq_getElem?_getD, List.getElem?_eq_getElem h]; exact List.getElem_mem h
theorem szI4 {x : Int} {m : Nat} (h : x.natAbs < 2 ^ m) (h0 : 0 < m) : Sz m (x : Rat) := sz_int h h0
theorem num_neg {t : Rat} : t.num < 0 ↔ t < 0 := by
  constructor
  · intro h
    apply Rat.not_le.mp
    intro h2
    have := Rat.num_nonneg.mpr h2
    omega
  · intro h
    apply Int.not_le.mp
    intro h2
    exact (Rat.not_le.mpr h) (Rat.num_nonneg.mp h2)
theorem numR_bd {t : Rat} {n : Nat} (h : ¬ t < 0) (h0 : 0 < n) (h1 : n ≤ 12) : 0 ≤ numR t n ∧ numR t n < n ∧ (numR t n).natAbs < 2 ^ 4 := by
  have hn : 0 ≤ t.num := by
    apply Int.not_lt.mp
    intro h2; exact h (num_neg.mp h2)
  have hd : (0 : Int) < t.den := by have := t.den_pos; omega
  have h3 : 0 ≤ t.num / (t.den : Int) := Int.ediv_nonneg hn (by omega)
  unfold numR
  omega
def ct_common_part : Ct := fun ds A k _ => ∃ a b : Int, ds = [.int a, .int b] ∧ 0 ≤ a ∧ 0 ≤ b ∧ b.natAbs < 2 ^ 9000 ∧ k (.int (Nat.gcd a.natAbs b.natAbs : Nat)) A
theorem ok_common_part (T : Txt K mg) : Fn P w K mg base "common_part" 1 ct_common_part := by
  refine fn_mk T.d_common_part sc_common_part (fun ds A k e h => ?_) fun f cdv A0 outer s H E hr hp htk ds A kk ee h => ?_
  · obtain ⟨a, b, rfl, _⟩ := h; rfl
  obtain ⟨a, b, rfl, ha, hb, hz, hk⟩ := h
  refine as_cons (a1_while hp (fun ρ A' => A' = A ∧ ∃ x y y2 y3, ρ = [some (.int x), some (.int y), y2, y3] ∧ 0 ≤ x ∧ 0 ≤ y ∧ y.natAbs < 2 ^ 9000 ∧ Nat.gcd x.natAbs y.natAbs = Nat.gcd a.natAbs b.natAbs)
    (fun ρ _ => match ρ with | [_, some (.int y), _, _] => y.natAbs | _ => 0) ⟨rfl, a, b, none, none, rfl, ha, hb, hz, rfl⟩ fun ρ A' hI => ?_)
  obtain ⟨rfl, x, y, y2, y3, rfl, hx, hy, hyz, hg⟩ := hI
  refine AT.aet (at_gt (av_var (i := 1) rfl (.inl rfl) rfl) av_int) ⟨fun hb => ?_, fun hb => ?_⟩
  · have h0 : 0 < y := of_decide_eq_true hb
    refine as_cons (a1_asg (AV.ae (av_divmod rfl T.m_divmod (avs_cons (av_var (i := 0) rfl (.inl rfl) rfl) (avs_cons (av_var (i := 1) rfl (.inl rfl) rfl) avs_nil)) (divp h0 hyz)) ⟨_, (ag_tup rfl (ags_cons (ag_name (i := 2) sc_common_part.nd rfl (.inl rfl)) (ags_cons (ag_name (i := 3) sc_common_part.nd rfl (.inl rfl)) ags_nil))), ?_⟩))
    refine as_set (i := 0) sc_common_part.nd rfl (.inl rfl) (AV.ae (av_var (i := 1) rfl (.inl rfl) rfl) ?_)
    refine as_set (i := 1) sc_common_part.nd rfl (.inl rfl) (AV.ae (av_var (i := 3) rfl (.inl rfl) rfl) ?_)
    have h1 := Int.emod_nonneg x (show y ≠ 0 by omega)
    have h2 := Int.emod_lt_of_pos x h0
    refine as_nil ⟨⟨rfl, y, x % y, _, _, rfl, hy, h1, by omega, (gcd_step hx h0).trans hg⟩, ?_⟩
    show (x % y).natAbs < y.natAbs
    omega
  · have h0 : y = 0 := by
      have : ¬ 0 < y := of_decide_eq_false hb
      omega
    subst h0
    refine as_retv (av_var (i := 0) rfl (.inl rfl) rfl) ?_
    rw [← hg, gcd_zero hx] at hk
    exact hk
def ct_share (C : Addr) : Ct := fun ds A k e => ∃ t b : Int, ds = [.int t, .int b] ∧ (b = 0 → e (.ref C) A) ∧ (b ≠ 0 → b.natAbs < 2 ^ 9000 ∧ k (sh ((t : Rat) / (b : Rat))) A)
theorem ok_share (T : Txt K mg) : Fn P w K mg base "share" 2 (ct_share T.C_NoShare) := by
  refine fn_mk T.d_share sc_share (fun ds A k e h => ?_) fun f cdv A0 outer s H E hr hp htk ds A kk ee h => ?_
  · obtain ⟨a, b, rfl, _⟩ := h; rfl
  obtain ⟨t, b, rfl, h0, hk⟩ := h
  refine as_if (at_eq (av_var (i := 1) rfl (.inl rfl) rfl) av_int) (fun hb => ?_) (fun hb => ?_)
  · -- raise NoShare('nothing is shared by nought')
    exact as_cons (a1_raiseF T.e_NoShare rfl htk rfl (h0 (of_decide_eq_true hb)))
  refine as_end ?_
  obtain ⟨hz, hk⟩ := hk (of_decide_eq_false hb)
  have hb0 : b ≠ 0 := of_decide_eq_false hb
  have key : ∀ t' b' : Int, 0 < b' → b'.natAbs < 2 ^ 9000 → kk (sh ((t' : Rat) / (b' : Rat))) A → AS (cxOf (L2N.CX P w) P w K mg base ["top", "bottom", "part"] "share" (defScope s_share) f cdv A0 outer s H E) (fun cls d _ H => E cls d H) ((defBody s_share).drop 2) [some (.int t'), some (.int b'), none] A { nx := fun _ A' => kk .non A', rt := kk, xc := fun c _ A' => ee c A' } := by
    intro t' b' hb' hz' hk'
    have hg : 0 < Nat.gcd t'.natAbs b'.natAbs := Nat.gcd_pos_of_pos_right _ (by omega)
    have hle : Nat.gcd t'.natAbs b'.natAbs ≤ b'.natAbs := Nat.le_of_dvd (by omega) (Nat.gcd_dvd_right _ _)
    have habs : (if t' < 0 then -t' else t').natAbs = t'.natAbs := by split <;> omega
    refine as_set (i := 2) sc_share.nd rfl (.inl rfl) (AV.ae (av_call (d := .int (Nat.gcd t'.natAbs b'.natAbs : Nat)) (ok_common_part T) (hr.mono (by decide)) rfl (avs_cons (av_abs rfl T.m_abs (av_var (i := 0) rfl (.inl rfl) rfl)) (avs_cons (av_var (i := 1) rfl (.inl rfl) rfl) avs_nil)) ⟨_, _, rfl, by split <;> omega, by omega, hz', by rw [habs], Ext.refl _⟩) ?_)
    have hd : ∀ i : Int, CDivW i (Nat.gcd t'.natAbs b'.natAbs : Nat) := fun i => divw (b := 9000) (by omega) (by omega) (by decide) (by decide)
    refine as_retv (av_tup (avs_cons (av_div (av_var (i := 0) rfl (.inl rfl) rfl) (av_var (i := 2) rfl (.inl rfl) rfl) (hd _)) (avs_cons (av_div (av_var (i := 1) rfl (.inl rfl) rfl) (av_var (i := 2) rfl (.inl rfl) rfl) (hd _)) avs_nil))) ?_
    rw [share_eq hb']
    exact hk'
  refine as_if (at_lt (av_var (i := 1) rfl (.inl rfl) rfl) av_int) (fun hb => ?_) (fun hb => ?_)
  · have hneg : b < 0 := of_decide_eq_true hb
    refine as_set (i := 0) sc_share.nd rfl (.inl rfl) (AV.ae (av_sub av_int (av_var (i := 0) rfl (.inl rfl) rfl)) ?_)
    refine as_set (i := 1) sc_share.nd rfl (.inl rfl) (AV.ae (av_sub av_int (av_var (i := 1) rfl (.inl rfl) rfl)) ?_)
    refine as_end (key (0 - t) (0 - b) (by omega) (by omega) ?_)
    rw [neg_div_neg]
    exact hk
  · have : ¬ b < 0 := of_decide_eq_false hb
    exact as_end (key t b (by omega) hz hk)
def ct_plus : Ct := fun ds A k _ => ∃ (p q : Rat) (m n : Nat), ds = [sh p, sh q] ∧ Sz m p ∧ Sz n q ∧ m + n ≤ 9000 ∧ k (sh (p + q)) A
theorem ok_plus (T : Txt K mg) : Fn P w K mg base "plus" 3 ct_plus := by
  refine fn_mk T.d_plus sc_plus (fun ds A k e h => ?_) fun f cdv A0 outer s H E hr hp htk ds A kk ee h => ?_
  · obtain ⟨p, q, m, n, rfl, _⟩ := h; rfl
  obtain ⟨p, q, m, n, rfl, hp', hq', hmn, hk⟩ := h
  refine as_retv (av_call (d := sh (p + q)) (ok_share T) (hr.mono (by decide)) rfl (avs_cons (av_add (av_mul (av_ixT (av_var (i := 0) rfl (.inl rfl) rfl) av_int rfl) (av_ixT (av_var (i := 1) rfl (.inl rfl) rfl) av_int rfl) (mulx hp'.num hq'.den (by omega))) (av_mul (av_ixT (av_var (i := 1) rfl (.inl rfl) rfl) av_int rfl) (av_ixT (av_var (i := 0) rfl (.inl rfl) rfl) av_int rfl) (mulx hq'.num hp'.den (by omega)))) (avs_cons (av_mul (av_ixT (av_var (i := 0) rfl (.inl rfl) rfl) av_int rfl) (av_ixT (av_var (i := 1) rfl (.inl rfl) rfl) av_int rfl) (mulx hp'.den hq'.den (by omega))) avs_nil))
    ⟨_, _, rfl, fun z => absurd z (den2 p q), fun _ => ⟨bt_le (bt_mul hp'.den hq'.den) hmn, by rw [add_eq], Ext.refl _⟩⟩) hk
def ct_line_by : Ct := fun ds A k _ => ∃ (w0 : Ip) (xs : (List Ip)) (ys : (List Ip)) (b : Int) (m : Nat), ds = [ip w0, .fz (xs.map ip), .fz (ys.map ip), .int b] ∧ ((w0.1.natAbs < 2 ^ m ∧ w0.2.natAbs < 2 ^ m)) ∧ (Bdl m xs) ∧ (Bdl m ys) ∧ (m ≤ 40000) ∧ (0 < xs.length) ∧ (0 < ys.length) ∧ (xs.length ≤ 64) ∧ (ys.length ≤ 64) ∧ (0 < b) ∧ (b.natAbs < 2 ^ 8000) ∧ k (.tup [.str "line", sh (w0.1 : Rat), sh (w0.2 : Rat), sh (((maxI (xs.map (dtI w0)) + minI (ys.map (dtI w0)) : Int) : Rat) / ((2 * b : Int) : Rat))]) A
theorem ok_line_by (T : Txt K mg) : Fn P w K mg base "line_by" 3 ct_line_by := by
  refine fn_mk T.d_line_by sc_line_by (fun ds A k e h => ?_) fun f cdv A0 outer s H E hr hp htk ds A kk ee h => ?_
  · obtain ⟨w0, xs, ys, b, m, rfl, _⟩ := h; rfl
  obtain ⟨w0, xs, ys, b, m, rfl, hw, hx, hy, hm, hx0, hy0, hxl, hyl, hb0, hbz, hk⟩ := h
  refine as_set (i := 4) sc_line_by.nd rfl (.inl rfl) (AV.ae (av_maxL rfl rfl T.m_max (AV.is (av_lcF rfl sc_line_by.nd (blkOk_by rfl) (own := [("place", 6)]) (is := [6]) (f := D.int) (F := fun i => dtI w0 (xs.getD i (0, 0))) (by decide) (ai_F ((0, 0) : Ip) (f := ip) (av_var (i := 1) rfl (.inl rfl) rfl) ⟨rfl, rfl, (Nat.le_of_lt (small1000 (by omega))), (fun _ x => trivial), fun i hi => ⟨_, fun s H C cl fp => ⟨(ag_name (i := 6) sc_line_by.nd rfl (.inl rfl)), fun A' x => (AE.av (ae_call (ok_along T) (hr.mono (by decide)) rfl (AVs.aes (avs_c (av_var (i := 0) rfl (.inr (.inl rfl)) rfl) (avs_c (av_var (i := 6) rfl (.inl rfl) rfl) avs_nil)) ⟨_, _, m, rfl, hw, hx.gi i, hm, ⟨rfl, Ext.refl _⟩⟩)))⟩⟩⟩)) (show _ = D.fz ((xs.map (dtI w0)).map D.int) by rw [← map_range_get xs ((0, 0) : Ip) (dtI w0)])) (by rw [List.length_map]; omega)) ?_)
  refine AS.ro (ρ' := [some (ip w0), some (.fz (xs.map ip)), some (.fz (ys.map ip)), some (.int b), some (.int (maxI (xs.map (dtI w0)))), none, none]) ?_
  refine as_set (i := 5) sc_line_by.nd rfl (.inl rfl) (AV.ae (av_minL rfl rfl T.m_min (AV.is (av_lcF rfl sc_line_by.nd (blkOk_by rfl) (own := [("place", 6)]) (is := [6]) (f := D.int) (F := fun i => dtI w0 (ys.getD i (0, 0))) (by decide) (ai_F ((0, 0) : Ip) (f := ip) (av_var (i := 2) rfl (.inl rfl) rfl) ⟨rfl, rfl, (Nat.le_of_lt (small1000 (by omega))), (fun _ x => trivial), fun i hi => ⟨_, fun s H C cl fp => ⟨(ag_name (i := 6) sc_line_by.nd rfl (.inl rfl)), fun A' x => (AE.av (ae_call (ok_along T) (hr.mono (by decide)) rfl (AVs.aes (avs_c (av_var (i := 0) rfl (.inr (.inl rfl)) rfl) (avs_c (av_var (i := 6) rfl (.inl rfl) rfl) avs_nil)) ⟨_, _, m, rfl, hw, hy.gi i, hm, ⟨rfl, Ext.refl _⟩⟩)))⟩⟩⟩)) (show _ = D.fz ((ys.map (dtI w0)).map D.int) by rw [← map_range_get ys ((0, 0) : Ip) (dtI w0)])) (by rw [List.length_map]; omega)) ?_)
  refine AS.ro (ρ' := [some (ip w0), some (.fz (xs.map ip)), some (.fz (ys.map ip)), some (.int b), some (.int (maxI (xs.map (dtI w0)))), some (.int (minI (ys.map (dtI w0)))), none]) ?_
  refine as_retv (av_tup (avs_c av_str (avs_c (AV.is (av_tup (avs_c (av_ixT (av_var (i := 0) rfl (.inr (.inl rfl)) rfl) av_int rfl) (avs_c av_int avs_nil))) (shI _)) (avs_c (AV.is (av_tup (avs_c (av_ixT (av_var (i := 0) rfl (.inr (.inl rfl)) rfl) av_int rfl) (avs_c av_int avs_nil))) (shI _)) (avs_c (AE.av (ae_call (ok_share T) (hr.mono (by decide)) rfl (AVs.aes (avs_c (av_add (av_var (i := 4) rfl (.inl rfl) rfl) (av_var (i := 5) rfl (.inl rfl) rfl)) (avs_c (av_mulS av_int (av_var (i := 3) rfl (.inl rfl) rfl) (.inl (by decide))) avs_nil)) ⟨_, _, rfl, fun h => absurd h (by omega), fun _ => ⟨bt_le (bt_mul (show (2 : Int).natAbs < 2 ^ 2 by decide) hbz) (by decide), ⟨rfl, Ext.refl _⟩⟩⟩))) avs_nil))))) hk
def ct_common_by (P : Program) (w : World) : Ct := fun ds A k _ => ∃ (ps : List (Ip × Int)) (p : Addr) (st : List (Ip × Ip)) (mn mo m : Nat) (is js : Nat → Nat), ds = [.fz (ps.map (fun q : Ip × Int => D.tup [ip q.1, .int q.2])), .ref p, .int (mn : Int), .int (mo : Int)] ∧ A p = some (.dD P w p (kvsS st)) ∧ (∀ t, t < ps.length → is t < mn ∧ js t < mo ∧ lkD (kvsS st) (keyI (ps.getD t ((0, 0), 0)).1) = some (ip ((is t : Int), (js t : Int)))) ∧ 0 < pSum ps ∧ ps.length ≤ 3 ∧ (∀ q ∈ ps, q.2.natAbs < 2 ^ m) ∧ m ≤ 4000 ∧ mn ≤ 64 ∧ mo ≤ 64 ∧ ∀ q1 q2, A q1 = none → aupd A q1 (.lst ((accN mn is (fun t => ((ps.getD t ((0, 0), 0)).2 : Rat) / (pSum ps : Rat)) ps.length).map sh)) q2 = none → k (.tup [.str "common", .ref q1, .ref q2]) (aupd (aupd A q1 (.lst ((accN mn is (fun t => ((ps.getD t ((0, 0), 0)).2 : Rat) / (pSum ps : Rat)) ps.length).map sh))) q2 (.lst ((accN mo js (fun t => ((ps.getD t ((0, 0), 0)).2 : Rat) / (pSum ps : Rat)) ps.length).map sh)))
theorem ok_common_by (T : Txt K mg) : Fn P w K mg base "common_by" 4 (ct_common_by P w) := by
  refine fn_mk T.d_common_by sc_common_by (fun ds A k e h => ?_) fun f cdv A0 outer s H E hr hp htk ds A kk ee h => ?_
  · obtain ⟨ps, p, st, mn, mo, m, is, js, rfl, _⟩ := h; rfl
  obtain ⟨ps, p, st, mn, mo, m, is, js, rfl, hA, hix, hpos, hl3, hbt, hm, hmn, hmo, hk⟩ := h
  obtain ⟨wt, hwt⟩ : ∃ wt : Nat → Rat, wt = fun t => ((ps.getD t ((0, 0), 0)).2 : Rat) / (pSum ps : Rat) := ⟨_, rfl⟩
  rw [← hwt] at hk
  have hsb := pSum_bt hl3 hbt
  have hwov : ∀ t, t < ps.length → Ov (pSum ps) m (wt t) := fun t ht => by
    rw [hwt]
    exact ⟨_, rfl, hbt _ (by rw [List.getD_eq_getElem?_getD, List.getElem?_eq_getElem ht]; exact List.getElem_mem ht)⟩
  refine as_setLc (i := 4) rfl sc_common_by.nd rfl rfl (sw_true rfl rfl rfl rfl) (blkOk_by rfl) (ac_F (own := [("k", 11)]) (is := [11]) (f := sh) (F := fun _ => (0 : Rat)) (by decide) (ai_rng rfl T.m_range (av_var (i := 2) rfl (.inl rfl) rfl) (by walk_at "om") (by walk_at "om") ⟨rfl, rfl, (Nat.le_of_lt (small1000 (by omega))), (fun _ x => trivial), fun i hi => ⟨_, fun s H C cl fp => ⟨(ag_name (i := 11) sc_common_by.nd rfl (.inl rfl)), fun A' x => (AV.is (av_glob rfl T.g_NOUGHT (v := .ref T.c_NOUGHT) rfl (fun H => T.r_NOUGHT H)) tup_0)⟩⟩⟩) fun g1 hg1 => ?_)
  refine AS.ro (ρ' := [some (.fz (ps.map (fun z : (Ip × Int) => D.tup [ip z.1, D.int z.2]))), some (.ref p), some (.int (mn : Int)), some (.int (mo : Int)), some (.ref g1), none, none, none, none, none, none, none, none]) ?_
  rw [show ((mn : Nat) : Int).toNat = mn by omega, rep_map, show List.replicate mn (0 : Rat) = accN mn is wt 0 from rfl]
  refine as_setLc (i := 5) rfl sc_common_by.nd rfl rfl (sw_true rfl rfl rfl rfl) (blkOk_by rfl) (ac_F (own := [("k", 11)]) (is := [11]) (f := sh) (F := fun _ => (0 : Rat)) (by decide) (ai_rng rfl T.m_range (av_var (i := 3) rfl (.inl rfl) rfl) (by walk_at "om") (by walk_at "om") ⟨rfl, rfl, (Nat.le_of_lt (small1000 (by omega))), (fun _ x => trivial), fun i hi => ⟨_, fun s H C cl fp => ⟨(ag_name (i := 11) sc_common_by.nd rfl (.inl rfl)), fun A' x => (AV.is (av_glob rfl T.g_NOUGHT (v := .ref T.c_NOUGHT) rfl (fun H => T.r_NOUGHT H)) tup_0)⟩⟩⟩) fun g2 hg2 => ?_)
  refine AS.ro (ρ' := [some (.fz (ps.map (fun z : (Ip × Int) => D.tup [ip z.1, D.int z.2]))), some (.ref p), some (.int (mn : Int)), some (.int (mo : Int)), some (.ref g1), some (.ref g2), none, none, none, none, none, none, none]) ?_
  rw [show ((mo : Nat) : Int).toNat = mo by omega, rep_map, show List.replicate mo (0 : Rat) = accN mo js wt 0 from rfl]
  refine as_set (i := 6) sc_common_by.nd rfl (.inl rfl) (AV.ae (av_sum rfl rfl T.m_sum (AV.is (av_lcF rfl sc_common_by.nd (blkOk_by rfl) (own := [("part", 12)]) (is := [12]) (f := D.int) (F := fun i => (ps.getD i ((0, 0), 0)).2) (by decide) (ai_F (((0, 0) : Ip), (0 : Int)) (f := (fun z : (Ip × Int) => D.tup [ip z.1, D.int z.2])) (av_var (i := 0) rfl (.inl rfl) rfl) ⟨rfl, rfl, (Nat.le_of_lt (small1000 (by omega))), (fun _ x => trivial), fun i hi => ⟨_, fun s H C cl fp => ⟨(ag_name (i := 12) sc_common_by.nd rfl (.inl rfl)), fun A' x => (av_ixT (av_var (i := 12) rfl (.inl rfl) rfl) av_int rfl)⟩⟩⟩)) (show _ = D.fz ((ps.map (·.2)).map D.int) by rw [← map_range_get ps (((0, 0), 0) : Ip × Int) (·.2)]))) ?_)
  refine AS.ro (ρ' := [some (.fz (ps.map (fun z : (Ip × Int) => D.tup [ip z.1, D.int z.2]))), some (.ref p), some (.int (mn : Int)), some (.int (mo : Int)), some (.ref g1), some (.ref g2), some (.int (pSum ps)), none, none, none, none, none, none]) ?_
  have n12 : g2 ≠ g1 := fun e => by rw [e, aupd_same] at hg2; cases hg2
  have hA2 : ∀ o1 o2, (aupd (aupd A g1 o1) g2 o2) p = some (.dD P w p (kvsS st)) := fun o1 o2 => by
    have e1 : p ≠ g1 := fun e => by rw [e, hg1] at hA; cases hA
    have e2 : p ≠ g2 := fun e => by rw [← e, aupd_ne e1, hA] at hg2; cases hg2
    rw [aupd_ne e2, aupd_ne e1]; exact hA
  refine as_cons (a1_for hp rfl (ai_F (((0, 0) : Ip), (0 : Int)) (f := (fun z : (Ip × Int) => D.tup [ip z.1, D.int z.2])) (av_var (i := 0) rfl (.inl rfl) rfl) ⟨fun i ρ A' => ∃ (y : Option D) (y2 : Option D) (y3 : Option D) (y4 : Option D), ρ = [some (.fz (ps.map (fun z : (Ip × Int) => D.tup [ip z.1, D.int z.2]))), some (.ref p), some (.int (mn : Int)), some (.int (mo : Int)), some (.ref g1), some (.ref g2), some (.int (pSum ps)), y, y2, y3, y4, none, none] ∧ A' = aupd (aupd A g1 (.lst ((accN mn is wt i).map sh))) g2 (.lst ((accN mo js wt i).map sh)), ⟨_, _, _, _, rfl, rfl⟩, fun i ρ A' hle hI => trivial, fun i ρ A' hi hI => ⟨_, _, (ag_tup rfl (ags_cons (ag_name (i := 7) sc_common_by.nd rfl (.inl rfl)) (ags_cons (ag_name (i := 8) sc_common_by.nd rfl (.inl rfl)) ags_nil))), ?_⟩, fun ρ A' hI => ?_⟩))
  · skip
    obtain ⟨y, y2, y3, y4, rfl, rfl⟩ := hI
    refine AS.ro (ρ' := [some (.fz (ps.map (fun z : (Ip × Int) => D.tup [ip z.1, D.int z.2]))), some (.ref p), some (.int (mn : Int)), some (.int (mo : Int)), some (.ref g1), some (.ref g2), some (.int (pSum ps)), some (ip (ps.getD i (((0, 0), 0) : Ip × Int)).1), some (.int (ps.getD i (((0, 0), 0) : Ip × Int)).2), y3, y4, none, none]) ?_
    obtain ⟨x1, x2, x3⟩ := hix i hi
    have hwi : wt i = ((ps.getD i (((0, 0), 0) : Ip × Int)).2 : Rat) / (pSum ps : Rat) := by rw [hwt]
    have hzw : Sz (m + 3) (wt i) := ov_sz (Int.ne_of_gt hpos) hsb ((hwov i hi).up (by omega))
    have hzu : ∀ k, Sz (m + 6) ((accN mn is wt i).getD k 0) := fun k => ov_sz (Int.ne_of_gt hpos) (bt_le hsb (by omega)) ((accN_ov i (fun k hk => hwov k (by omega)) k).up (by omega))
    have hzv : ∀ k, Sz (m + 6) ((accN mo js wt i).getD k 0) := fun k => ov_sz (Int.ne_of_gt hpos) (bt_le hsb (by omega)) ((accN_ov i (fun k hk => hwov k (by omega)) k).up (by omega))
    refine as_cons (a1_asg (AV.ae (av_ixDk hr (ds := [.int (ps.getD i (((0, 0), 0) : Ip × Int)).1.1, .int (ps.getD i (((0, 0), 0) : Ip × Int)).1.2]) (av_var (i := 1) rfl (.inl rfl) rfl) (av_var (i := 7) rfl (.inl rfl) rfl) (kk := keyI (ps.getD i (((0, 0), 0) : Ip × Int)).1) (hA2 _ _) rfl (keyI_dep _) x3) ⟨_, (ag_tup rfl (ags_cons (ag_name (i := 9) sc_common_by.nd rfl (.inl rfl)) (ags_cons (ag_name (i := 10) sc_common_by.nd rfl (.inl rfl)) ags_nil))), ?_⟩))
    refine AS.ro (ρ' := [some (.fz (ps.map (fun z : (Ip × Int) => D.tup [ip z.1, D.int z.2]))), some (.ref p), some (.int (mn : Int)), some (.int (mo : Int)), some (.ref g1), some (.ref g2), some (.int (pSum ps)), some (ip (ps.getD i (((0, 0), 0) : Ip × Int)).1), some (.int (ps.getD i (((0, 0), 0) : Ip × Int)).2), some (.int (is i : Int)), some (.int (js i : Int)), none, none]) ?_
    refine as_cons (a1_setL (AV.is (AE.av (ae_call (ok_plus T) (hr.mono (by decide)) rfl (AVs.aes (avs_c (av_ixDN (f := sh) (0 : Rat) (av_var (i := 4) rfl (.inl rfl) rfl) (IsL.of (show (aupd (aupd A g1 (.lst ((accN mn is wt i).map sh))) g2 (.lst ((accN mo js wt i).map sh))) g1 = some (.lst ((accN mn is wt i).map sh)) by rw [aupd_ne (fun e => n12 e.symm), aupd_same])) (av_var (i := 9) rfl (.inl rfl) rfl) (n := is i) rfl (by rw [accN_len]; exact x1)) (avs_c (AV.is (AE.av (ae_call (ok_share T) (hr.mono (by decide)) rfl (AVs.aes (avs_c (av_var (i := 8) rfl (.inl rfl) rfl) (avs_c (av_var (i := 6) rfl (.inl rfl) rfl) avs_nil)) ⟨_, _, rfl, fun h => absurd h (Int.ne_of_gt hpos), fun _ => ⟨bt_le hsb (by omega), ⟨rfl, Ext.refl _⟩⟩⟩))) (show _ = sh (wt i) by rw [hwi])) avs_nil)) ⟨_, _, m + 6, m + 3, rfl, hzu _, hzw, by omega, ⟨rfl, Ext.refl _⟩⟩))) (show _ = sh ((accN mn is wt i).getD (is i) 0 + wt i) from rfl)) (av_var (i := 4) rfl (.inl rfl) rfl) (av_var (i := 9) rfl (.inl rfl) rfl) (show (aupd (aupd A g1 (.lst ((accN mn is wt i).map sh))) g2 (.lst ((accN mo js wt i).map sh))) g1 = some (.lst ((accN mn is wt i).map sh)) by rw [aupd_ne (fun e => n12 e.symm), aupd_same]) (m := is i) (ixI (by rw [List.length_map, accN_len]; exact x1)) ?_)
    have e1 : aupd (aupd (aupd A g1 (.lst ((accN mn is wt i).map sh))) g2 (.lst ((accN mo js wt i).map sh))) g1 (.lst (((accN mn is wt i).map sh).set (is i) (sh ((accN mn is wt i).getD (is i) 0 + wt i)))) = aupd (aupd A g1 (.lst ((accN mn is wt (i + 1)).map sh))) g2 (.lst ((accN mo js wt i).map sh)) := by
      rw [aupd_swap n12, ← List.map_set]
      rfl
    rw [e1]
    refine as_cons (a1_setL (AV.is (AE.av (ae_call (ok_plus T) (hr.mono (by decide)) rfl (AVs.aes (avs_c (av_ixDN (f := sh) (0 : Rat) (av_var (i := 5) rfl (.inl rfl) rfl) (IsL.of (show (aupd (aupd A g1 (.lst ((accN mn is wt (i + 1)).map sh))) g2 (.lst ((accN mo js wt i).map sh))) g2 = some (.lst ((accN mo js wt i).map sh)) from aupd_same)) (av_var (i := 10) rfl (.inl rfl) rfl) (n := js i) rfl (by rw [accN_len]; exact x2)) (avs_c (AV.is (AE.av (ae_call (ok_share T) (hr.mono (by decide)) rfl (AVs.aes (avs_c (av_var (i := 8) rfl (.inl rfl) rfl) (avs_c (av_var (i := 6) rfl (.inl rfl) rfl) avs_nil)) ⟨_, _, rfl, fun h => absurd h (Int.ne_of_gt hpos), fun _ => ⟨bt_le hsb (by omega), ⟨rfl, Ext.refl _⟩⟩⟩))) (show _ = sh (wt i) by rw [hwi])) avs_nil)) ⟨_, _, m + 6, m + 3, rfl, hzv _, hzw, by omega, ⟨rfl, Ext.refl _⟩⟩))) (show _ = sh ((accN mo js wt i).getD (js i) 0 + wt i) from rfl)) (av_var (i := 5) rfl (.inl rfl) rfl) (av_var (i := 10) rfl (.inl rfl) rfl) (show (aupd (aupd A g1 (.lst ((accN mn is wt (i + 1)).map sh))) g2 (.lst ((accN mo js wt i).map sh))) g2 = some (.lst ((accN mo js wt i).map sh)) from aupd_same) (m := js i) (ixI (by rw [List.length_map, accN_len]; exact x2)) ?_)
    have hpF : aupd (aupd (aupd A g1 (.lst ((accN mn is wt (i + 1)).map sh))) g2 (.lst ((accN mo js wt i).map sh))) g2 (.lst (((accN mo js wt i).map sh).set (js i) (sh ((accN mo js wt i).getD (js i) 0 + wt i)))) = aupd (aupd A g1 (.lst ((accN mn is wt (i + 1)).map sh))) g2 (.lst ((accN mo js wt (i + 1)).map sh)) := by
      rw [aupd_aupd, ← List.map_set]
      rfl
    exact as_nil ⟨_, _, _, _, rfl, hpF⟩
  obtain ⟨y, y2, y3, y4, rfl, rfl⟩ := hI
  refine AS.ro (ρ' := [some (.fz (ps.map (fun z : (Ip × Int) => D.tup [ip z.1, D.int z.2]))), some (.ref p), some (.int (mn : Int)), some (.int (mo : Int)), some (.ref g1), some (.ref g2), some (.int (pSum ps)), y, y2, y3, y4, none, none]) ?_
  exact as_ret (AV.ae (av_tup (avs_c av_str (avs_c (av_var (i := 4) rfl (.inl rfl) rfl) (avs_c (av_var (i := 5) rfl (.inl rfl) rfl) avs_nil)))) (hk g1 g2 hg1 (aupd_none _ hg2)))
def ct_goes_left : Ct := fun ds A k _ => ∃ (a : Ip) (b : Ip) (z : Ip) (m : Nat), ds = [ip a, ip b, ip z] ∧ (a.1.natAbs < 2 ^ m ∧ a.2.natAbs < 2 ^ m) ∧ (b.1.natAbs < 2 ^ m ∧ b.2.natAbs < 2 ^ m) ∧ (z.1.natAbs < 2 ^ m ∧ z.2.natAbs < 2 ^ m) ∧ (m ≤ 40000) ∧ k (.bl (decide (0 < crI a b z))) A
theorem ok_goes_left (T : Txt K mg) : Fn P w K mg base "goes_left" 1 ct_goes_left := by
  refine fn_mk T.d_goes_left sc_goes_left (fun ds A k e h => ?_) fun f cdv A0 outer s H E hr hp htk ds A kk ee h => ?_
  · obtain ⟨a, b, z, m, rfl, _⟩ := h; rfl
  obtain ⟨a, b, z, m, rfl, ha, hb, hz, hm, hk⟩ := h
  have s1 := bt_sub hb.1 ha.1
  have s2 := bt_sub hz.2 ha.2
  have s3 := bt_sub hb.2 ha.2
  have s4 := bt_sub hz.1 ha.1
  refine as_set (i := 3) sc_goes_left.nd rfl (.inl rfl) (AV.ae (av_mul (av_sub (av_ixT (av_var (i := 1) rfl (.inl rfl) rfl) av_int rfl) (av_ixT (av_var (i := 0) rfl (.inl rfl) rfl) av_int rfl)) (av_sub (av_ixT (av_var (i := 2) rfl (.inl rfl) rfl) av_int rfl) (av_ixT (av_var (i := 0) rfl (.inl rfl) rfl) av_int rfl)) (mulx s1 s2 (by omega))) ?_)
  have e : decide (0 < crI a b z) = decide ((b.2 - a.2) * (z.1 - a.1) < (b.1 - a.1) * (z.2 - a.2)) := by unfold crI; rw [decide_eq_decide]; omega
  rw [e] at hk
  refine as_retv (av_gt (av_var (i := 3) rfl (.inl rfl) rfl) (av_mul (av_sub (av_ixT (av_var (i := 1) rfl (.inl rfl) rfl) av_int rfl) (av_ixT (av_var (i := 0) rfl (.inl rfl) rfl) av_int rfl)) (av_sub (av_ixT (av_var (i := 2) rfl (.inl rfl) rfl) av_int rfl) (av_ixT (av_var (i := 0) rfl (.inl rfl) rfl) av_int rfl)) (mulx s3 s4 (by omega)))) hk
def ct_chain : Ct := fun ds A k _ => ∃ (zs : (List Ip)) (m : Nat), ds = [.fz (zs.map ip)] ∧ (Bdl m zs) ∧ (m ≤ 40000) ∧ (zs.length ≤ 500) ∧ k (.fz ((chainL zs).map ip)) A
theorem ok_chain (T : Txt K mg) : Fn P w K mg base "chain" 2 ct_chain := by
  refine fn_mk T.d_chain sc_chain (fun ds A k e h => ?_) fun f cdv A0 outer s H E hr hp htk ds A kk ee h => ?_
  · obtain ⟨zs, m, rfl, _⟩ := h; rfl
  obtain ⟨zs, m, rfl, hb, hm, hl, hk⟩ := h
  refine as_set (i := 1) sc_chain.nd rfl (.inl rfl) (AL.ae (al_lst (ds := []) avs_nil) fun q hq => ?_)
  refine as_cons (a1_for hp rfl (ai_F ((0, 0) : Ip) (f := ip) (av_var (i := 0) rfl (.inl rfl) rfl) ⟨fun i ρ A' => ∃ (y : Option D) (fs : List Ip), ρ = [some (.fz (zs.map ip)), some (.ref q), y] ∧ A' = aupd A q (.lst (fs.map ip)) ∧ (fs = (stkC (zs.take i)).reverse), ⟨_, [], rfl, rfl, rfl⟩, fun i ρ A' hle hI => trivial, fun i ρ A' hi hI => ⟨_, _, (ag_name (i := 2) sc_chain.nd rfl (.inl rfl)), ?_⟩, fun ρ A' hI => ?_⟩))
  · skip
    obtain ⟨y, fs, rfl, rfl, hfs⟩ := hI
    have hzi := hb.gi i
    have hik : i < zs.length := hi
    have hsm : ∀ y ∈ stkC (zs.take i), y ∈ zs := fun y hy => List.mem_of_mem_take (stkC_mem _ hy)
    have hsl := stkC_len (zs.take i)
    rw [List.length_take] at hsl
    refine AS.ro (ρ' := [some (.fz (zs.map ip)), some (.ref q), some (ip (gi zs i))]) ?_
    refine as_cons (a1_whileN hp (fun n ρ A' => ∃ (gs : List Ip), ρ = [some (.fz (zs.map ip)), some (.ref q), some (ip (gi zs i))] ∧ A' = aupd A q (.lst (gs.map ip)) ∧ (∃ st, gs = st.reverse ∧ popC st (gi zs i) = popC (stkC (zs.take i)) (gi zs i) ∧ n = st.length ∧ ∀ y ∈ st, y ∈ zs)) ⟨(stkC (zs.take i)).length, fs, rfl, rfl, stkC (zs.take i), hfs, rfl, rfl, hsm⟩ fun n ρ A' hI => ?_)
    obtain ⟨gs, rfl, rfl, ⟨st, hgs, hpop, hn, hst⟩⟩ := hI
    refine AT.aet (AW.at (aw_and (at_gt (av_lenD rfl T.m_len (av_var (i := 1) rfl (.inl rfl) rfl) (IsL.of aupd_same)) av_int) fun hgt => (aw_and1 (at_not (at_val (AE.av (ae_call (ok_goes_left T) (hr.mono (by decide)) rfl (AVs.aes (avs_c (AV.is (av_ixDB (f := ip) ((0, 0) : Ip) (av_var (i := 1) rfl (.inl rfl) rfl) (IsL.of aupd_same) (av_neg av_int) (n := 2) rfl (by decide) (by have := of_decide_eq_true hgt; omega)) (show _ = ip (gi st 1) by have := of_decide_eq_true hgt; rw [hgs, List.length_reverse] at *; rw [rev_get1 (by omega)])) (avs_c (AV.is (av_ixDB (f := ip) ((0, 0) : Ip) (av_var (i := 1) rfl (.inl rfl) rfl) (IsL.of aupd_same) (av_neg av_int) (n := 1) rfl (by decide) (by have := of_decide_eq_true hgt; omega)) (show _ = ip (gi st 0) by have := of_decide_eq_true hgt; rw [hgs, List.length_reverse] at *; rw [rev_get0 (by omega)])) (avs_c (av_var (i := 2) rfl (.inl rfl) rfl) avs_nil))) ⟨_, _, _, m, rfl, (hb.sub hst).gi 1, (hb.sub hst).gi 0, hzi, hm, ⟨rfl, Ext.refl _⟩⟩)))))))) ⟨fun hw => ?_, fun hw => ?_⟩
    · skip
      rw [Bool.and_eq_true] at hw
      have h1 := of_decide_eq_true hw.1
      rw [hgs, List.length_reverse] at h1
      have h1 : 1 < st.length := by omega
      have h2 : ¬ 0 < crI (gi st 1) (gi st 0) (gi zs i) := by have := hw.2; simpa using this
      obtain ⟨y0, y1, r, rfl⟩ : ∃ y0 y1 r, st = y0 :: y1 :: r := by match st, h1 with | [], h => exact absurd h (Nat.not_lt_zero 1) | [_], h => exact absurd h (Nat.lt_irrefl 1) | y0 :: y1 :: r, _ => exact ⟨y0, y1, r, rfl⟩
      have hgm : gs.map ip = (y1 :: r).reverse.map ip ++ [ip y0] := by rw [hgs, List.reverse_cons, List.map_append]; rfl
      refine as_cons (a1_expr (ae_pop (AV.ae (av_var (i := 1) rfl (.inl rfl) rfl) ⟨q, (y1 :: r).reverse.map ip, ip y0, rfl, by rw [← hgm]; exact aupd_same, ?_⟩)))
      rw [aupd_aupd]
      exact as_nil ⟨(y1 :: r).length, by rw [hn]; exact Nat.lt_succ_self _, (y1 :: r).reverse, rfl, rfl, y1 :: r, rfl, by rw [← hpop, popC_step (st := y0 :: y1 :: r) (by show 1 < r.length + 2; omega), if_neg h2]; rfl, rfl, fun y hy => hst y (List.mem_cons_of_mem _ hy)⟩
    have hpe : popC st (gi zs i) = st := by
      rw [Bool.and_eq_false_iff] at hw
      by_cases h1 : 1 < st.length
      · rcases hw with h | h
        · have := of_decide_eq_false h; rw [hgs, List.length_reverse] at this; omega
        · rw [popC_step h1, if_pos (by simpa using h)]
      · exact popC_small h1
    have hgl : gs.length ≤ 500 := by
      have h1 : gs.length = (popC (stkC (zs.take i)) (gi zs i)).length := by rw [hgs, List.length_reverse, ← hpop, hpe]
      have := popC_len (stkC (zs.take i)) (gi zs i)
      omega
    refine as_cons (a1_expr (ae_append (AV.ae (av_var (i := 1) rfl (.inl rfl) rfl) ⟨_, rfl, ⟨_, aupd_same⟩, AV.ae (av_var (i := 2) rfl (.inl rfl) rfl) ⟨_, aupd_same, (by rw [List.length_map]; exact small1000 (by omega)), ?_⟩⟩)))
    refine as_nil ⟨_, (stkC (zs.take (i + 1))).reverse, rfl, ?_, rfl⟩
    rw [aupd_aupd, stk_take hik, ← hpop, hpe, List.reverse_cons, ← hgs, List.map_append]
    rfl
  obtain ⟨y, fs, rfl, rfl, hfs⟩ := hI
  rw [List.take_length] at hfs
  refine as_fz 1 rfl hq ?_
  rw [show chainL zs = fs from hfs.symm] at hk
  refine as_retv (av_var (i := 1) rfl (.inl rfl) rfl) hk
def ct_whole_points : Ct := fun ds A k _ => ∃ (row : (List Pt)) (Dn : Int), ds = [.fz (row.map pt)] ∧ (0 < Dn) ∧ (Dn.natAbs < 2 ^ 4000) ∧ (∀ p ∈ row, dvP Dn p) ∧ (∀ p ∈ row, SzP 4000 p) ∧ (row.length ≤ 200) ∧ ∀ b, 0 < b → b ∣ Dn → (∀ p ∈ row, dvP b p) → k (.tup [.int b, .fz ((row.map (wholeC b)).map ip)]) A
theorem ok_whole_points (T : Txt K mg) : Fn P w K mg base "whole_points" 2 ct_whole_points := by
  refine fn_mk T.d_whole_points sc_whole_points (fun ds A k e h => ?_) fun f cdv A0 outer s H E hr hp htk ds A kk ee h => ?_
  · obtain ⟨row, Dn, rfl, _⟩ := h; rfl
  obtain ⟨row, Dn, rfl, hD0, hDz, hdv, hz, hl, hk⟩ := h
  have hle : ∀ b : Int, 0 < b → b ∣ Dn → b.natAbs < 2 ^ 4000 := fun b hb hd => by
    have := Int.le_of_dvd hD0 hd
    omega
  refine as_set (i := 1) sc_whole_points.nd rfl (.inl rfl) (AV.ae av_int ?_)
  refine AS.ro (ρ' := [some (.fz (row.map pt)), some (.int 1), none, none, none, none, none]) ?_
  refine as_cons (a1_for hp rfl (ai_F ((0, 0) : Pt) (f := pt) (av_var (i := 0) rfl (.inl rfl) rfl) ⟨fun i ρ A' => ∃ (y : Option D) (y2 : Option D) (b : Int), ρ = [some (.fz (row.map pt)), some (.int b), y, y2, none, none, none] ∧ A = A' ∧ (0 < b) ∧ (b ∣ Dn) ∧ (∀ k, k < i → dvP b (row.getD k (0, 0))), ⟨_, _, 1, rfl, rfl, by decide, ⟨Dn, (Int.one_mul Dn).symm⟩, fun k hk => absurd hk (by omega)⟩, fun i ρ A' hle hI => trivial, fun i ρ A' hi hI => ⟨_, _, (ag_name (i := 2) sc_whole_points.nd rfl (.inl rfl)), ?_⟩, fun ρ A' hI => ?_⟩))
  · skip
    obtain ⟨y, y2, b, rfl, rfl, hb0, hbD, hbi⟩ := hI
    have hp0 := hdv (row.getD i (0, 0)) (getD_in (P := fun p => p ∈ row) (fun p hp => hp) hi)
    have hz0 := hz (row.getD i (0, 0)) (getD_in (P := fun p => p ∈ row) (fun p hp => hp) hi)
    refine as_cons (a1_for hp rfl (ai_T (0 : Rat) (xs := [(row.getD i ((0, 0) : Pt)).1, (row.getD i ((0, 0) : Pt)).2]) (f := sh) (av_var (i := 2) rfl (.inl rfl) rfl) ⟨fun j ρ A' => ∃ (y3 : Option D) (b2 : Int), ρ = [some (.fz (row.map pt)), some (.int b2), some (pt (row.getD i ((0, 0) : Pt))), y3, none, none, none] ∧ A = A' ∧ (0 < b2) ∧ (b2 ∣ Dn) ∧ (b ∣ b2) ∧ (∀ k, k < j → ((([(row.getD i ((0, 0) : Pt)).1, (row.getD i ((0, 0) : Pt)).2] : List Rat).getD k 0).den : Int) ∣ b2), ⟨_, b, rfl, rfl, hb0, hbD, Int.dvd_refl b, fun k hk => absurd hk (by omega)⟩, fun j ρ A' hle hI => trivial, fun j ρ A' hj hI => ⟨_, _, (ag_name (i := 3) sc_whole_points.nd rfl (.inl rfl)), ?_⟩, fun ρ A' hI => ?_⟩))
    · skip
      obtain ⟨y3, b2, rfl, rfl, hc0, hcD, hcb, hcj⟩ := hI
      have hj2 : j < 2 := hj
      have od := den_pos ([(row.getD i ((0, 0) : Pt)).1, (row.getD i ((0, 0) : Pt)).2].getD j (0 : Rat))
      have oD : ((([(row.getD i ((0, 0) : Pt)).1, (row.getD i ((0, 0) : Pt)).2].getD j (0 : Rat))).den : Int) ∣ Dn := getD_in (P := fun q : Rat => (q.den : Int) ∣ Dn) (by intro q hq; simp only [List.mem_cons, List.not_mem_nil, or_false] at hq; rcases hq with h | h <;> rw [h]; exact hp0.1; exact hp0.2) hj
      have cs := lcm_step hc0 od hD0 hcD oD
      have oz := hle _ od oD
      have bz := hle b2 hc0 hcD
      have g0 : 0 < ((Nat.gcd b2.natAbs ((([(row.getD i ((0, 0) : Pt)).1, (row.getD i ((0, 0) : Pt)).2].getD j (0 : Rat))).den : Int).natAbs : Nat) : Int) := by have := Nat.gcd_pos_of_pos_left ((([(row.getD i ((0, 0) : Pt)).1, (row.getD i ((0, 0) : Pt)).2].getD j (0 : Rat))).den : Int).natAbs (show 0 < b2.natAbs by omega); omega
      have gl : ((Nat.gcd b2.natAbs ((([(row.getD i ((0, 0) : Pt)).1, (row.getD i ((0, 0) : Pt)).2].getD j (0 : Rat))).den : Int).natAbs : Nat) : Int) ≤ b2 := by have := Nat.le_of_dvd (show 0 < b2.natAbs by omega) (Nat.gcd_dvd_left b2.natAbs ((([(row.getD i ((0, 0) : Pt)).1, (row.getD i ((0, 0) : Pt)).2].getD j (0 : Rat))).den : Int).natAbs); omega
      have qz : (b2 / ((Nat.gcd b2.natAbs ((([(row.getD i ((0, 0) : Pt)).1, (row.getD i ((0, 0) : Pt)).2].getD j (0 : Rat))).den : Int).natAbs : Nat) : Int)).natAbs < 2 ^ 4000 := by
        have h1 := Int.ediv_nonneg (a := b2) (b := ((Nat.gcd b2.natAbs ((([(row.getD i ((0, 0) : Pt)).1, (row.getD i ((0, 0) : Pt)).2].getD j (0 : Rat))).den : Int).natAbs : Nat) : Int)) (by omega) (by omega)
        have h2 := Int.ediv_le_self (a := b2) ((Nat.gcd b2.natAbs ((([(row.getD i ((0, 0) : Pt)).1, (row.getD i ((0, 0) : Pt)).2].getD j (0 : Rat))).den : Int).natAbs : Nat) : Int) (by omega)
        omega
      refine as_set (i := 1) sc_whole_points.nd rfl (.inl rfl) (AV.ae (av_mul (av_div (av_var (i := 1) rfl (.inl rfl) rfl) (AE.av (ae_call (ok_common_part T) (hr.mono (by decide)) rfl (AVs.aes (avs_c (av_var (i := 1) rfl (.inl rfl) rfl) (avs_c (av_ixT (av_var (i := 3) rfl (.inl rfl) rfl) av_int rfl) avs_nil)) ⟨_, _, rfl, by omega, by omega, bt_le oz (by decide), ⟨rfl, Ext.refl _⟩⟩))) (divw (b := 4000) g0 (by omega) (by decide) (by decide))) (av_ixT (av_var (i := 3) rfl (.inl rfl) rfl) av_int rfl) (mulx qz oz (by decide))) ?_)
      refine AS.ro (ρ' := [some (.fz (row.map pt)), some (.int (b2 / ((Nat.gcd b2.natAbs ((([(row.getD i ((0, 0) : Pt)).1, (row.getD i ((0, 0) : Pt)).2].getD j (0 : Rat))).den : Int).natAbs : Nat) : Int) * ((([(row.getD i ((0, 0) : Pt)).1, (row.getD i ((0, 0) : Pt)).2].getD j (0 : Rat))).den : Int))), some (pt (row.getD i ((0, 0) : Pt))), some (sh ([(row.getD i ((0, 0) : Pt)).1, (row.getD i ((0, 0) : Pt)).2].getD j (0 : Rat))), none, none, none]) ?_
      exact as_nil ⟨_, (b2 / ((Nat.gcd b2.natAbs ((([(row.getD i ((0, 0) : Pt)).1, (row.getD i ((0, 0) : Pt)).2].getD j (0 : Rat))).den : Int).natAbs : Nat) : Int) * ((([(row.getD i ((0, 0) : Pt)).1, (row.getD i ((0, 0) : Pt)).2].getD j (0 : Rat))).den : Int)), rfl, rfl, cs.1, cs.2.2.2, Int.dvd_trans hcb cs.2.1, fun k hk => (Nat.lt_succ_iff_lt_or_eq.mp hk).elim (fun h => Int.dvd_trans (hcj k h) cs.2.1) (fun h => by rw [h]; exact cs.2.2.1)⟩
    obtain ⟨y3, b2, rfl, rfl, hc0, hcD, hcb, hcj⟩ := hI
    exact as_nil ⟨_, _, b2, rfl, rfl, hc0, hcD, fun k hk => (Nat.lt_succ_iff_lt_or_eq.mp hk).elim (fun h => ⟨Int.dvd_trans (hbi k h).1 hcb, Int.dvd_trans (hbi k h).2 hcb⟩) (fun h => by rw [h]; exact ⟨hcj 0 (show 0 < 2 by decide), hcj 1 (show 1 < 2 by decide)⟩)⟩
  obtain ⟨y, y2, b, rfl, rfl, hb0, hbD, hbi⟩ := hI
  have hall : ∀ p ∈ row, dvP b p := fun p hp => by
    obtain ⟨i, hi, e⟩ := List.getElem_of_mem hp
    have := hbi i hi
    rw [List.getD_eq_getElem?_getD, List.getElem?_eq_getElem hi, Option.getD_some, e] at this
    exact this
  have hbz := hle b hb0 hbD
  have hqd : ∀ d : Int, 0 < d → (b / d).natAbs < 2 ^ 4000 := fun d hd => by
    have h1 := Int.ediv_nonneg (a := b) (b := d) (by omega) (by omega)
    have h2 := Int.ediv_le_self (a := b) d (by omega)
    omega
  refine as_set (i := 4) sc_whole_points.nd rfl (.inl rfl) (AL.ae (al_lst (ds := []) avs_nil) fun q hq => ?_)
  refine AS.ro (ρ' := [some (.fz (row.map pt)), some (.int b), y, y2, some (.ref q), none, none]) ?_
  refine as_cons (a1_for hp rfl (ai_F ((0, 0) : Pt) (f := pt) (av_var (i := 0) rfl (.inl rfl) rfl) ⟨fun i ρ A' => ∃ (y4 : Option D) (y5 : Option D), ρ = [some (.fz (row.map pt)), some (.int b), y, y2, some (.ref q), y4, y5] ∧ A' = aupd A q (.lst (((List.range i).map fun k => wholeC b (row.getD k (0, 0))).map ip)), ⟨_, _, rfl, rfl⟩, fun i ρ A' hle hI => trivial, fun i ρ A' hi hI => ⟨_, _, (ag_tup rfl (ags_cons (ag_name (i := 5) sc_whole_points.nd rfl (.inl rfl)) (ags_cons (ag_name (i := 6) sc_whole_points.nd rfl (.inl rfl)) ags_nil))), ?_⟩, fun ρ A' hI => ?_⟩))
  · skip
    obtain ⟨y4, y5, rfl, rfl⟩ := hI
    have hzi := hz (row.getD i (0, 0)) (getD_in (P := fun p => p ∈ row) (fun p hp => hp) hi)
    refine as_cons (a1_expr (ae_append (AV.ae (av_var (i := 4) rfl (.inl rfl) rfl) ⟨_, rfl, ⟨_, aupd_same⟩, AV.ae (av_tup (avs_c (av_mul (av_ixT (av_var (i := 5) rfl (.inl rfl) rfl) av_int rfl) (av_div (av_var (i := 1) rfl (.inl rfl) rfl) (av_ixT (av_var (i := 5) rfl (.inl rfl) rfl) av_int rfl) (divw (b := 9000) (by have := den_pos (row.getD i ((0, 0) : Pt)).1; omega) (bt_le hzi.1.den (by decide)) (by decide) (by decide))) (mulx hzi.1.num (hqd _ (by have := den_pos (row.getD i ((0, 0) : Pt)).1; omega)) (by decide))) (avs_c (av_mul (av_ixT (av_var (i := 6) rfl (.inl rfl) rfl) av_int rfl) (av_div (av_var (i := 1) rfl (.inl rfl) rfl) (av_ixT (av_var (i := 6) rfl (.inl rfl) rfl) av_int rfl) (divw (b := 9000) (by have := den_pos (row.getD i ((0, 0) : Pt)).2; omega) (bt_le hzi.2.den (by decide)) (by decide) (by decide))) (mulx hzi.2.num (hqd _ (by have := den_pos (row.getD i ((0, 0) : Pt)).2; omega)) (by decide))) avs_nil))) ⟨_, aupd_same, (by simp only [List.length_map, List.length_range]; exact small1000 (by omega)), ?_⟩⟩)))
    refine as_nil ⟨_, _, rfl, ?hp2⟩
    rw [aupd_aupd, List.range_succ, List.map_append (f := fun k => wholeC b (row.getD k (0, 0))), List.map_append]
    rfl
  obtain ⟨y4, y5, rfl, rfl⟩ := hI
  rw [map_range_get row ((0, 0) : Pt) (wholeC b)]
  refine as_fz 4 rfl hq ?_
  refine AS.ro (ρ' := [some (.fz (row.map pt)), some (.int b), y, y2, some (.fz ((row.map (wholeC b)).map ip)), y4, y5]) ?_
  refine as_retv (av_tup (avs_c (av_var (i := 1) rfl (.inl rfl) rfl) (avs_c (av_var (i := 4) rfl (.inl rfl) rfl) avs_nil))) (hk b hb0 hbD hall)
def ct_hull_of_whole : Ct := fun ds A k _ => ∃ (zs : (List Ip)) (m : Nat), ds = [.fz (zs.map ip)] ∧ (Bdl m zs) ∧ (m ≤ 40000) ∧ (0 < zs.length) ∧ (zs.length ≤ 200) ∧ zs.Nodup ∧ k (.fz ((cornersI zs).map ip)) A
theorem ok_hull_of_whole (T : Txt K mg) : Fn P w K mg base "hull_of_whole" 3 ct_hull_of_whole := by
  refine fn_mk T.d_hull_of_whole sc_hull_of_whole (fun ds A k e h => ?_) fun f cdv A0 outer s H E hr hp htk ds A kk ee h => ?_
  · obtain ⟨zs, m, rfl, _⟩ := h; rfl
  obtain ⟨zs, m, rfl, hb, hm, hl0, hl, hnd, hk⟩ := h
  refine as_set (i := 1) sc_hull_of_whole.nd rfl (.inl rfl) (AV.ae (av_sortedWid hr rfl rfl rfl T.m_sorted T.m_set (av_var (i := 0) rfl (.inl rfl) rfl) IsL.fz hl hnd) ?_)
  have hsl := srtP_len zs
  have hs0 : 0 < (srtP zs).length := by
    have : gi zs 0 ∈ srtP zs := mem_srtP.mpr (gi_mem hl0)
    exact List.length_pos_of_mem this
  have hsb : Bdl m (srtP zs) := hb.sub fun z hz => mem_srtP.mp hz
  have hrb : Bdl m (srtP zs).reverse := hsb.sub fun z hz => List.mem_reverse.mp hz
  refine as_if (at_lt (av_lenD rfl T.m_len (av_var (i := 1) rfl (.inl rfl) rfl) IsL.fz) av_int) (fun h1 => ?_) (fun h1 => as_end ?_)
  · skip
    have h1 := of_decide_eq_true h1
    have e : cornersI zs = srtP zs := by
      by_cases h : (srtP zs).length = 1
      · unfold cornersI; rw [if_pos h]
      · obtain ⟨a, b, e⟩ : ∃ a b, srtP zs = [a, b] := len2 (by omega)
        rw [corners_two e, e]
    rw [e] at hk
    refine as_retv (av_var (i := 1) rfl (.inl rfl) rfl) hk
  have h1 : ¬ (srtP zs).length = 1 := by have := of_decide_eq_false h1; omega
  have e : cornersI zs = (chainL (srtP zs)).dropLast ++ (chainL (srtP zs).reverse).dropLast := by unfold cornersI; rw [if_neg h1]
  rw [e] at hk
  have l1 := chainL_len (srtP zs)
  have l2 := chainL_len (srtP zs).reverse
  rw [List.length_reverse] at l2
  have dl : ∀ l : List Ip, cutL l none (some (-1)) = l.dropLast := fun l => by
    by_cases h : 0 < l.length
    · rw [cutL_init _ h, List.dropLast_eq_take]
    · have h0 : l = [] := List.length_eq_zero_iff.mp (by omega)
      rw [h0]
      rfl
  refine as_retv (av_cat (f := ip) (AV.is (av_slF (AE.av (ae_call (ok_chain T) (hr.mono (by decide)) rfl (AVs.aes (avs_c (av_var (i := 1) rfl (.inl rfl) rfl) avs_nil) ⟨_, m, rfl, hsb, hm, by omega, ⟨rfl, Ext.refl _⟩⟩))) IsL.fz (lo' := none) (hi' := (some (-1))) trivial (av_neg av_int)) (show _ = D.fz ((chainL (srtP zs)).dropLast.map ip) by rw [dl])) (AV.is (av_slF (AE.av (ae_call (ok_chain T) (hr.mono (by decide)) rfl (AVs.aes (avs_c (av_rev (av_var (i := 1) rfl (.inl rfl) rfl) IsL.fz) avs_nil) ⟨(srtP zs).reverse, m, rfl, hrb, hm, by rw [List.length_reverse]; omega, ⟨rfl, Ext.refl _⟩⟩))) IsL.fz (lo' := none) (hi' := (some (-1))) trivial (av_neg av_int)) (show _ = D.fz ((chainL (srtP zs).reverse).dropLast.map ip) by rw [dl])) (IsM.fz _) (IsM.fz _) (Nat.le_of_lt (small1000 (by rw [List.length_dropLast, List.length_dropLast]; omega)))) hk
def ct_parting : Ct := fun ds A k _ => ∃ (d1 d2 : D) (r s : List Pt) (Bt : Int) (m : Nat), ds = [d1, d2] ∧ IsM A d1 (r.map pt) ∧ IsM A d2 (s.map pt) ∧ (∀ p ∈ r ++ s, OvP Bt m p) ∧ 0 < Bt ∧ Bt.natAbs < 2 ^ m ∧ m ≤ 990 ∧ 0 < r.length ∧ 0 < s.length ∧ r.length ≤ 20 ∧ s.length ≤ 20 ∧ r.length * s.length < 200 ∧
  (∀ a b c, SepL a b c r s → Sz (8 * m + 12) a → Sz (8 * m + 12) b → Sz (8 * m + 12) c → k (.tup [.str "line", sh a, sh b, sh c]) A) ∧
  (∀ us vs q1 q2 A', CmOk us vs r s → (∀ u ∈ us ++ vs, Sz (4 * m + 10) u) → Ext A A' → A q1 = none → A q2 = none → q1 ≠ q2 → A' q1 = some (.lst (us.map sh)) → A' q2 = some (.lst (vs.map sh)) → k (.tup [.str "common", .ref q1, .ref q2]) A')
theorem ok_parting (T : Txt K mg) : Fn P w K mg base "parting" 5 ct_parting := by
  refine fn_mk T.d_parting sc_parting (fun ds A k e h => ?_) fun f cdv A0 outer s0 H E hr hp htk ds A kk ee h => ?_
  · obtain ⟨d1, d2, r, s, Bt, m, rfl, _⟩ := h; rfl
  obtain ⟨d1, d2, r, s, Bt, m, rfl, hM1, hM2, hov, hB0, hBz, hm, hr0, hs0, hrl, hsl, hrs, hk1, hk2⟩ := h
  have hsz : ∀ p ∈ r ++ s, SzP m p := fun p hp => ovp_sz (by omega) hBz (hov p hp)
  refine as_cons (a1_asg (ae_call (ok_whole_points T) (hr.mono (by decide)) rfl (AVs.aes (avs_c (av_cat (f := pt) (av_var (i := 0) rfl (.inl rfl) rfl) (av_var (i := 1) rfl (.inl rfl) rfl) hM1 hM2 (Nat.le_of_lt (small1000 (by omega)))) avs_nil) ⟨_, Bt, rfl, hB0, bt_le hBz (by omega), fun p hp => ov_dvd (by omega) (hov p hp), fun p hp => (hsz p hp).up (by omega), by rw [List.length_append]; omega, fun b hb0 hbD hbv => ⟨_, (ag_tup rfl (ags_cons (ag_name (i := 2) sc_parting.nd rfl (.inl rfl)) (ags_cons (ag_name (i := 3) sc_parting.nd rfl (.inl rfl)) ags_nil))), ?_⟩⟩)))
  refine AS.ro (ρ' := [some (d1), some (d2), some (.int b), some (.fz (((r ++ s).map (wholeC b)).map ip)), none, none, none, none, none]) ?_
  have hbz : b.natAbs < 2 ^ m := by have := Int.le_of_dvd hB0 hbD; omega
  have hwb := whole_bdl hB0 hBz hb0 hbD hsz
  obtain ⟨xs, hxs⟩ : ∃ xs, xs = r.map (wholeC b) := ⟨_, rfl⟩
  obtain ⟨ys, hys⟩ : ∃ ys, ys = s.map (wholeC b) := ⟨_, rfl⟩
  have hxl : xs.length = r.length := by rw [hxs, List.length_map]
  have hyl : ys.length = s.length := by rw [hys, List.length_map]
  have ec : ((r ++ s).map (wholeC b)) = xs ++ ys := by rw [hxs, hys, List.map_append]
  rw [ec] at hwb
  have hbx : Bdl (2 * m) xs := hwb.sub fun z hz => List.mem_append_left _ hz
  have hby : Bdl (2 * m) ys := hwb.sub fun z hz => List.mem_append_right _ hz
  have ex : xs.map (ptC b) = r := by
    rw [hxs, List.map_map]
    conv => rhs; rw [← List.map_id r]
    exact List.map_congr_left fun p hp => ptC_whole (by omega) (hbv p (List.mem_append_left _ hp))
  have ey : ys.map (ptC b) = s := by
    rw [hys, List.map_map]
    conv => rhs; rw [← List.map_id s]
    exact List.map_congr_left fun p hp => ptC_whole (by omega) (hbv p (List.mem_append_right _ hp))
  refine as_set (i := 4) sc_parting.nd rfl (.inl rfl) (AV.ae (AV.is (av_slF (f := ip) (av_var (i := 3) rfl (.inl rfl) rfl) IsL.fz (lo' := none) (hi' := (some ((r.length : Nat) : Int))) trivial (av_lenD rfl T.m_len (av_var (i := 0) rfl (.inl rfl) rfl) hM1.l)) (show _ = D.fz (xs.map ip) by rw [cutL_take, ec, List.take_left' hxl])) ?_)
  refine AS.ro (ρ' := [some (d1), some (d2), some (.int b), some (.fz (((r ++ s).map (wholeC b)).map ip)), some (.fz (xs.map ip)), none, none, none, none]) ?_
  refine as_set (i := 5) sc_parting.nd rfl (.inl rfl) (AV.ae (AV.is (av_slF (f := ip) (av_var (i := 3) rfl (.inl rfl) rfl) IsL.fz (lo' := (some ((r.length : Nat) : Int))) (hi' := none) (av_lenD rfl T.m_len (av_var (i := 0) rfl (.inl rfl) rfl) hM1.l) trivial) (show _ = D.fz (ys.map ip) by rw [cutL_drop, ec, List.drop_left' hxl])) ?_)
  refine AS.ro (ρ' := [some (d1), some (d2), some (.int b), some (.fz (((r ++ s).map (wholeC b)).map ip)), some (.fz (xs.map ip)), some (.fz (ys.map ip)), none, none, none]) ?_
  refine as_set (i := 6) sc_parting.nd rfl (.inl rfl) (ae_call (ok_steps_between T) (hr.mono (by decide)) rfl (AVs.aes (avs_c (av_var (i := 4) rfl (.inl rfl) rfl) (avs_c (av_var (i := 5) rfl (.inl rfl) rfl) avs_nil)) ⟨_, _, rfl, by omega, by omega, fun g st hg hS => ?_⟩))
  refine AS.ro (ρ' := [some (d1), some (d2), some (.int b), some (.fz (((r ++ s).map (wholeC b)).map ip)), some (.fz (xs.map ip)), some (.fz (ys.map ip)), some (.ref g), none, none]) ?_
  have hstl : st.length ≤ r.length * s.length := by have := hS.len; rw [hxl, hyl] at this; omega
  have hbk := sb_bdl hbx hby hS
  obtain ⟨ks, hks⟩ : ∃ ks, ks = st.map (·.1) := ⟨_, rfl⟩
  rw [← hks] at hbk
  have hkl : ks.length = st.length := by rw [hks, List.length_map]
  have hmem : ∀ x ∈ xs, ∀ y ∈ ys, sb y x ∈ ks := fun x hx y hy => by
    obtain ⟨a, ha, rfl⟩ := List.getElem_of_mem hx
    obtain ⟨b9, hb9, rfl⟩ := List.getElem_of_mem hy
    obtain ⟨q, hq, e⟩ := hS.all a b9 hb9 (.inl ha)
    rw [hks, List.mem_map]
    refine ⟨q, hq, ?_⟩
    rw [e]
    unfold gi
    rw [List.getD_eq_getElem?_getD, List.getElem?_eq_getElem hb9, List.getD_eq_getElem?_getD, List.getElem?_eq_getElem ha]
    rfl
  have hk0 : 0 < ks.length := List.length_pos_of_mem (hmem _ (gi_mem (show 0 < xs.length by omega)) _ (gi_mem (show 0 < ys.length by omega)))
  refine as_set (i := 7) sc_parting.nd rfl (.inl rfl) (AV.ae (AE.av (ae_call (ok_hull_of_whole T) (hr.mono (by decide)) rfl (AVs.aes (avs_c (AV.is (AL.av (al_listDk (st := st.map fun q => (q.1, ip q.2)) rfl rfl T.m_list (av_var (i := 6) rfl (.inl rfl) rfl) aupd_same (by rw [List.length_map]; exact Nat.le_of_lt (small1000 (by omega))))) (show _ = D.fz (ks.map ip) by rw [hks, List.map_map, List.map_map]; rfl)) avs_nil) ⟨ks, _, rfl, hbk, by omega, hk0, by omega, by rw [hks]; exact hS.nd, ⟨rfl, Ext.refl _⟩⟩))) ?_)
  refine AS.ro (ρ' := [some (d1), some (d2), some (.int b), some (.fz (((r ++ s).map (wholeC b)).map ip)), some (.fz (xs.map ip)), some (.fz (ys.map ip)), some (.ref g), some (.fz ((cornersI ks).map ip)), none]) ?_
  have hcl := cornersI_len ks
  have hcb : Bdl (2 * m + 1) (cornersI ks) := hbk.sub fun z hz => cornersI_mem hz
  have hc0 := corners_ne hk0
  refine as_set (i := 8) sc_parting.nd rfl (.inl rfl) (ae_call (ok_ahead_of_all T) (hr.mono (by decide)) rfl (AVs.aes (avs_c (av_var (i := 7) rfl (.inl rfl) rfl) avs_nil) ⟨_, _, rfl, hcb, by omega, hc0, by omega, fun hN => ?_, fun w0 hW => ?_⟩))
  · skip
    refine AS.ro (ρ' := [some (d1), some (d2), some (.int b), some (.fz (((r ++ s).map (wholeC b)).map ip)), some (.fz (xs.map ip)), some (.fz (ys.map ip)), some (.ref g), some (.fz ((cornersI ks).map ip)), some (.non)]) ?_
    refine as_if (bb := false) (at_notNone0 (av_var (i := 8) rfl (.inl rfl) rfl)) (fun h => nomatch h) (fun _ => as_end ?_)
    refine as_ret (ae_call (ok_common_by T) (hr.mono (by decide)) rfl (aes_cons (ae_call (ok_parts_of T) (hr.mono (by decide)) rfl (AVs.aes (avs_c (av_var (i := 7) rfl (.inl rfl) rfl) avs_nil) ⟨ks, _, rfl, hcb, by omega, hk0, by omega, hN, fun ps hps hpb => ?_⟩))))
    obtain ⟨is, js, hij⟩ := parts_pick hS hps fun c9 hc9 => by have := cornersI_mem hc9; rw [hks, List.mem_map] at this; exact this
    have hcm := cm_of hb0 hps (is := is) (js := js) (xs := xs) (ys := ys) fun t ht => ⟨(hij t ht).1, (hij t ht).2.1, (hij t ht).2.2.1⟩
    rw [ex, ey] at hcm
    have hpsb := pSum_bt hps.few hpb
    have hov2 : ∀ t, t < ps.length → Ov (pSum ps) (2 * (2 * m + 1) + 2) ((fun t => ((ps.getD t ((0, 0), 0)).2 : Rat) / (pSum ps : Rat)) t) := fun t ht => ⟨_, rfl, hpb _ (by rw [List.getD_eq_getElem?_getD, List.getElem?_eq_getElem ht]; exact List.getElem_mem ht)⟩
    refine AVs.aes (avs_c (av_var (i := 6) rfl (.inl rfl) rfl) (avs_c (AV.is (av_lenD rfl T.m_len (av_var (i := 0) rfl (.inl rfl) rfl) (hM1.l.ext (Ext.new hg))) (show _ = D.int ((xs.length : Nat) : Int) by rw [hxl])) (avs_c (AV.is (av_lenD rfl T.m_len (av_var (i := 1) rfl (.inl rfl) rfl) (hM2.l.ext (Ext.new hg))) (show _ = D.int ((ys.length : Nat) : Int) by rw [hyl])) avs_nil))) ⟨ps, g, st, xs.length, ys.length, _, is, js, rfl, aupd_same, fun t ht => ⟨(hij t ht).1, (hij t ht).2.1, (hij t ht).2.2.2⟩, hps.pos, hps.few, hpb, by omega, by omega, by omega, fun q1 q2 hq1 hq2 => ?_⟩
    have hAq1 : A q1 = none := (Ext.new hg).none hq1
    have hAq2 : A q2 = none := (Ext.new hg).none ((Ext.new hq1).none hq2)
    have hne : q1 ≠ q2 := fun e => by rw [← e, aupd_same] at hq2; cases hq2
    refine hk2 _ _ q1 q2 _ hcm (fun u hu => ?_) (((Ext.new hg).trans (Ext.new hq1)).trans (Ext.new hq2)) hAq1 hAq2 hne (by rw [aupd_ne hne, aupd_same]) aupd_same
    have hall : ∀ (mn : Nat) (ix : Nat → Nat), ∀ u ∈ accN mn ix (fun t => ((ps.getD t ((0, 0), 0)).2 : Rat) / (pSum ps : Rat)) ps.length, Sz (4 * m + 10) u := fun mn ix u hu => by
      obtain ⟨i, hi, rfl⟩ := List.getElem_of_mem hu
      have := accN_ov (many := mn) (ix := ix) ps.length hov2 i
      rw [List.getD_eq_getElem?_getD, List.getElem?_eq_getElem hi] at this
      have hf := hps.few
      exact (ov_sz (m := 2 * (2 * m + 1) + 2 + 3) (Int.ne_of_gt hps.pos) hpsb (this.up (by omega))).up (by omega)
    rcases List.mem_append.mp hu with hu | hu
    · exact hall _ _ u hu
    · exact hall _ _ u hu
  refine AS.ro (ρ' := [some (d1), some (d2), some (.int b), some (.fz (((r ++ s).map (wholeC b)).map ip)), some (.fz (xs.map ip)), some (.fz (ys.map ip)), some (.ref g), some (.fz ((cornersI ks).map ip)), some (ip w0)]) ?_
  refine as_if (bb := true) (at_notNone (av_var (i := 8) rfl (.inl rfl) rfl)) (fun _ => ?_) (fun h => nomatch h)
  have hah := ahead_pos hW
  have hsep := sep_of hb0 (w := w0) (xs := xs) (ys := ys) (by omega) (by omega) fun x hx y hy => hah _ (hmem x hx y hy)
  rw [ex, ey] at hsep
  have hw0 : w0.1.natAbs < 2 ^ (4 * m + 4) ∧ w0.2.natAbs < 2 ^ (4 * m + 4) := ahW_bt hcb (by omega) hW
  have hmx : ∀ zs : List Ip, Bdl (2 * m) zs → ∀ v ∈ zs.map (dtI w0), v.natAbs < 2 ^ (2 * (4 * m + 4) + 1) := fun zs hz v hv => by
    obtain ⟨z, hz9, rfl⟩ := List.mem_map.mp hv
    exact dt_bt hw0 ⟨bt_le (hz z hz9).1 (by omega), bt_le (hz z hz9).2 (by omega)⟩
  have c1 := hmx xs hbx _ (maxI_ok (xs.map (dtI w0)) (by rw [List.length_map]; omega)).1
  have c2 := hmx ys hby _ (minI_ok (ys.map (dtI w0)) (by rw [List.length_map]; omega)).1
  refine as_weak (A0 := A) (Ext.new hg) ?_
  exact as_ret (ae_call (ok_line_by T) (hr.mono (by decide)) rfl (AVs.aes (avs_c (av_var (i := 8) rfl (.inl rfl) rfl) (avs_c (av_var (i := 4) rfl (.inl rfl) rfl) (avs_c (av_var (i := 5) rfl (.inl rfl) rfl) (avs_c (av_var (i := 2) rfl (.inl rfl) rfl) avs_nil)))) ⟨_, _, _, _, 4 * m + 4, rfl, hw0, hbx.up (by omega), hby.up (by omega), by omega, by omega, by omega, by omega, by omega, hb0, bt_le hbz (by omega), hk1 _ _ _ hsep (szI4 (bt_le hw0.1 (by omega)) (by omega)) (szI4 (bt_le hw0.2 (by omega)) (by omega)) (sz_div (by omega) rfl (bt_le (bt_add c1 c2) (by omega)) (bt_le (bt_mul (show (2 : Int).natAbs < 2 ^ 2 by decide) hbz) (by omega)))⟩))
/-- a, b, c = e1, e2, e3 -/
theorem a1_par3 {X : Cx} {W : WX} {ρ : Ro} {A : AH} {E : AEnds} {a b c : Expr} {pos : Pos} {i j l : Nat} {nx ny nz : Str} {px py pz pt : Pos} {kt k2 : Nat} {pt2 : Pos} {d1 d2 d3 : D} (h : AVs X [a, b, c] ρ A [d1, d2, d3]) (q : E.nx (((ρ.set i (some d1)).set j (some d2)).set l (some d3)) A)
    (hp : ∀ ta : TA, PA X [a, b, c] ta → PS X (.Assign [.Tuple [.Name nx px, .Name ny py, .Name nz pz] kt pt] (.Tuple [a, b, c] k2 pt2) pos) (tPar3 i j l ta)) : A1 X W (.Assign [.Tuple [.Name nx px, .Name ny py, .Name nz pz] kt pt] (.Tuple [a, b, c] k2 pt2) pos) ρ A E := fun σ H s D qq =>
  tm1_of (hp _ (pa_tm [a, b, c])) (h σ H s _ fun vs H' t r l => by
    cases r with
    | cons r1 r =>
      cases r with
      | cons r2 r =>
        cases r with
        | cons r3 r =>
          cases r
          exact ⟨_, _, _, rfl, qq.nx _ A _ H' t ((((s.mono t l).set _ r1).set _ r2).set _ r3) q⟩)
theorem q_den (q : Rat) : q * (q.den : Rat) = (q.num : Rat) := by
  have h : (q.den : Rat) ≠ 0 := by exact_mod_cast Nat.pos_iff_ne_zero.mp q.den_pos
  have e := rat_eq q
  generalize hd : (q.den : Rat) = d at *
  generalize hn : (q.num : Rat) = n at *
  rw [e]
  grind
/-- which side of a line, in whole numbers -/
theorem side_num (a b c x y : Rat) : (a.num * x.num * (b.den : Int) * (y.den : Int) + b.num * y.num * (a.den : Int) * (x.den : Int)) * (c.den : Int) < c.num * ((a.den : Int) * (x.den : Int) * (b.den : Int) * (y.den : Int)) ↔ a * x + b * y < c := by
  have pos : ∀ q : Rat, (0 : Rat) < (q.den : Rat) := fun q => by exact_mod_cast q.den_pos
  have e : ∀ q : Rat, q * (q.den : Rat) = (q.num : Rat) := fun q => q_den q
  have pa := pos a; have pb := pos b; have pc := pos c; have px := pos x; have py := pos y
  have ea := e a; have eb := e b; have ec := e c; have ex := e x; have ey := e y
  rw [← Rat.intCast_lt_intCast]
  push_cast
  rw [← ea, ← eb, ← ec, ← ex, ← ey]
  have hp : (0 : Rat) < (a.den : Rat) * (x.den : Rat) * (b.den : Rat) * (y.den : Rat) * (c.den : Rat) := Rat.mul_pos (Rat.mul_pos (Rat.mul_pos (Rat.mul_pos pa px) pb) py) pc
  generalize (a.den : Rat) = A at *
  generalize (b.den : Rat) = B at *
  generalize (c.den : Rat) = C at *
  generalize (x.den : Rat) = X at *
  generalize (y.den : Rat) = Y at *
  have l : (a * A * (x * X) * B * Y + b * B * (y * Y) * A * X) * C = (a * x + b * y) * (A * X * B * Y * C) := by grind
  have r : c * C * (A * X * B * Y) = c * (A * X * B * Y * C) := by grind
  rw [l, r]
  exact ⟨fun h => Rat.not_le.mp fun z => Rat.not_le.mpr h (Rat.mul_le_mul_of_nonneg_right z (Rat.le_of_lt hp)), fun h => Rat.mul_lt_mul_of_pos_right h hp⟩
theorem side_neg (a b c x y : Rat) : (-1) * (a.num * x.num * (b.den : Int) * (y.den : Int) + b.num * y.num * (a.den : Int) * (x.den : Int)) * (c.den : Int) < (-1) * c.num * ((a.den : Int) * (x.den : Int) * (b.den : Int) * (y.den : Int)) ↔ c < a * x + b * y := by
  have h := side_num (-a) (-b) (-c) x y
  rw [Rat.neg_num, Rat.neg_num, Rat.neg_num, Rat.neg_den, Rat.neg_den, Rat.neg_den] at h
  have e1 : (-1) * (a.num * x.num * (b.den : Int) * (y.den : Int) + b.num * y.num * (a.den : Int) * (x.den : Int)) * (c.den : Int) = (-a.num * x.num * (b.den : Int) * (y.den : Int) + -b.num * y.num * (a.den : Int) * (x.den : Int)) * (c.den : Int) := by grind
  have e2 : (-1) * c.num = -c.num := by omega
  rw [e1, e2, h]
  constructor <;> intro h <;> grind
def ct__law_whole : Ct := fun ds A k _ => ∃ i : Int, ds = [.int i] ∧ k (.bl true) A
theorem ok__law_whole (T : Txt K mg) : Fn P w K mg base "_law_whole" 1 ct__law_whole := by
  refine fn_mk T.d__law_whole sc__law_whole (fun ds A k e h => ?_) fun f cdv A0 outer s H E hr hp htk ds A kk ee h => ?_
  · obtain ⟨i, rfl, _⟩ := h; rfl
  obtain ⟨i, rfl, hk⟩ := h
  exact as_retv (av_and (av_isi rfl T.m_isinstance (avs_cons (av_var (i := 0) rfl (.inl rfl) rfl) (avs_cons (av_ty rfl T.m_int bo_int) avs_nil)) (.int i) kt_int_int) fun _ => (av_one (av_not (av_isi rfl T.m_isinstance (avs_cons (av_var (i := 0) rfl (.inl rfl) rfl) (avs_cons (av_ty rfl T.m_bool bo_bool) avs_nil)) (.int i) kt_int_bool)))) hk
def ct__law_part : Ct := fun ds A k _ => ∃ a b : Int, ds = [.int a, .int b] ∧ 0 ≤ a ∧ 0 ≤ b ∧ k (.int (Nat.gcd a.natAbs b.natAbs : Nat)) A
theorem ok__law_part (T : Txt K mg) : Fn P w K mg base "_law_part" 1 ct__law_part := by
  refine fn_mk T.d__law_part sc__law_part (fun ds A k e h => ?_) fun f cdv A0 outer s H E hr hp htk ds A kk ee h => ?_
  · obtain ⟨a, b, rfl, _⟩ := h; rfl
  obtain ⟨a, b, rfl, ha, hb, hk⟩ := h
  refine as_cons (a1_while hp (fun ρ A' => A' = A ∧ ∃ x y, ρ = [some (.int x), some (.int y)] ∧ 0 ≤ x ∧ 0 ≤ y ∧ Nat.gcd x.natAbs y.natAbs = Nat.gcd a.natAbs b.natAbs)
    (fun ρ _ => match ρ with | [_, some (.int y)] => y.natAbs | _ => 0) ⟨rfl, a, b, rfl, ha, hb, rfl⟩ fun ρ A' hI => ?_)
  obtain ⟨rfl, x, y, rfl, hx, hy, hg⟩ := hI
  refine AT.aet (at_gt (av_var (i := 1) rfl (.inl rfl) rfl) av_int) ⟨fun hb => ?_, fun hb => ?_⟩
  · have h0 : 0 < y := of_decide_eq_true hb
    have h1 := Int.emod_nonneg x (show y ≠ 0 by omega)
    have h2 := Int.emod_lt_of_pos x h0
    refine as_cons (a1_par (i := 0) (j := 1) (d1 := .int y) (d2 := .int (x % y)) rfl sc__law_part.nd rfl rfl (by decide) rfl rfl (avs_cons (av_var (i := 1) rfl (.inl rfl) rfl) (avs_cons (av_mod (av_var (i := 0) rfl (.inl rfl) rfl) (av_var (i := 1) rfl (.inl rfl) rfl) h0) avs_nil)) ?_ (fun ta ha => ps_par rfl sc__law_part.nd rfl rfl (by decide) rfl rfl ha (by rfl)))
    refine as_nil ⟨⟨rfl, y, x % y, rfl, hy, h1, (gcd_step hx h0).trans hg⟩, ?_⟩
    show (x % y).natAbs < y.natAbs
    omega
  · have h0 : y = 0 := by
      have : ¬ 0 < y := of_decide_eq_false hb
      omega
    subst h0
    rw [← hg, gcd_zero hx] at hk
    exact as_retv (av_var (i := 0) rfl (.inl rfl) rfl) hk
def ct__law_is_share : Ct := fun ds A k _ => ∃ q : Rat, ds = [sh q] ∧ k (.bl true) A
theorem ok__law_is_share (T : Txt K mg) : Fn P w K mg base "_law_is_share" 2 ct__law_is_share := by
  refine fn_mk T.d__law_is_share sc__law_is_share (fun ds A k e h => ?_) fun f cdv A0 outer s H E hr hp htk ds A kk ee h => ?_
  · obtain ⟨i, rfl, _⟩ := h; rfl
  obtain ⟨q, rfl, hk⟩ := h
  refine as_if (bb := false) (AT.is (AW.at (aw_or (at_not (at_val (av_isi rfl T.m_isinstance (avs_cons (av_var (i := 0) rfl (.inl rfl) rfl) (avs_cons (av_ty rfl T.m_tuple bo_tuple) avs_nil)) (.tup _) kt_tuple_tuple))) fun _ => (aw_or1 (at_ne (av_lenT rfl T.m_len (av_var (i := 0) rfl (.inl rfl) rfl)) av_int)))) rfl) (fun hb => nomatch hb) (fun hb => ?_)
  refine as_end ?_
  have hw : ∀ i : Int, ct__law_whole [.int i] A (fun d' A' => d' = .bl true ∧ Ext A A') fun _ _ => False := fun i => ⟨i, rfl, rfl, Ext.refl _⟩
  refine as_if (bb := false) (AT.is (AW.at (aw_or (at_not (at_val (av_call (ok__law_whole T) (hr.mono (by decide)) rfl (avs_cons (av_ixT (av_var (i := 0) rfl (.inl rfl) rfl) av_int rfl) avs_nil) (hw q.num)))) fun _ => (aw_or (at_not (at_val (av_call (ok__law_whole T) (hr.mono (by decide)) rfl (avs_cons (av_ixT (av_var (i := 0) rfl (.inl rfl) rfl) av_int rfl) avs_nil) (hw (q.den : Int))))) fun _ => (aw_or1 (at_lt (av_ixT (av_var (i := 0) rfl (.inl rfl) rfl) av_int rfl) av_int))))) ?_) (fun hb => nomatch hb) (fun hb => ?_)
  · have := den_pos q
    have e : decide ((q.den : Int) < 1) = false := decide_eq_false (by omega)
    rw [e]
    rfl
  refine as_end ?_
  have habs : (if q.num < 0 then -q.num else q.num).natAbs = q.num.natAbs := by split <;> omega
  have hred : Nat.gcd q.num.natAbs q.den = 1 := q.reduced
  refine as_retv (AV.is (av_eq (av_call (d := .int 1) (ok__law_part T) (hr.mono (by decide)) rfl (avs_cons (av_abs rfl T.m_abs (av_ixT (av_var (i := 0) rfl (.inl rfl) rfl) av_int rfl)) (avs_cons (av_ixT (av_var (i := 0) rfl (.inl rfl) rfl) av_int rfl) avs_nil)) ⟨_, _, rfl, by split <;> omega, by have := den_pos q; omega, ?_, Ext.refl _⟩) av_int) rfl) hk
  rw [habs, Int.natAbs_natCast, hred]
  rfl
def ct__law_is_line : Ct := fun ds A k _ => ∃ (a b c : Rat) (r s : List Pt) (m : Nat), ds = [.tup [.str "line", sh a, sh b, sh c], .fz (r.map pt), .fz (s.map pt)] ∧ SepL a b c r s ∧ Sz m a ∧ Sz m b ∧ Sz m c ∧ (∀ p ∈ r ++ s, SzP m p) ∧ m ≤ 8000 ∧ k (.bl true) A
theorem ok__law_is_line (T : Txt K mg) : Fn P w K mg base "_law_is_line" 3 ct__law_is_line := by
  refine fn_mk T.d__law_is_line sc__law_is_line (fun ds A k e h => ?_) fun f cdv A0 outer s0 H E hr hp htk ds A kk ee h => ?_
  · obtain ⟨a, b, c, r, s, m, rfl, _⟩ := h; rfl
  obtain ⟨a, b, c, r, s, m, rfl, hsep, hza, hzb, hzc, hzp, hm, hk⟩ := h
  refine as_cons (a1_for hp rfl (ai_range2 rfl T.m_range (avs_c av_int (avs_c av_int avs_nil)) ⟨_, _, rfl, by walk_at "om4", ⟨fun i ρ A' => ∃ (y : Option D), ρ = [some (.tup [.str "line", sh a, sh b, sh c]), some (.fz (r.map pt)), some (.fz (s.map pt)), y, none, none, none, none, none, none, none, none, none] ∧ A = A', ⟨_, rfl, rfl⟩, fun i ρ A' hle hI => trivial, fun i ρ A' hi hI => ⟨_, _, (ag_name (i := 3) sc__law_is_line.nd rfl (.inl rfl)), ?_⟩, fun ρ A' hI => ?_⟩⟩))
  · skip
    obtain ⟨y, rfl, rfl⟩ := hI
    refine AS.ro (ρ' := [some (.tup [.str "line", sh a, sh b, sh c]), some (.fz (r.map pt)), some (.fz (s.map pt)), some (.int (1 + (i : Int))), none, none, none, none, none, none, none, none, none]) ?_
    have hat : atI [.str "line", sh a, sh b, sh c] (1 + (i : Int)) = some (sh (([a, b, c] : List Rat).getD i 0)) := by
      have : i < 3 := by omega
      match i, this with
      | 0, _ => rfl
      | 1, _ => rfl
      | 2, _ => rfl
    refine as_if (bb := false) (AT.is (at_not (at_val (AE.av (ae_call (ok__law_is_share T) (hr.mono (by decide)) rfl (AVs.aes (avs_c (av_ixT (ds := [.str "line", sh a, sh b, sh c]) (av_var (i := 0) rfl (.inl rfl) rfl) (av_var (i := 3) rfl (.inl rfl) rfl) hat) avs_nil) ⟨_, rfl, ⟨rfl, Ext.refl _⟩⟩))))) (by simp)) (fun hb => nomatch hb) (fun _ => as_end ?_)
    exact as_nil ⟨_, rfl, rfl⟩
  obtain ⟨y, rfl, rfl⟩ := hI
  refine AS.ro (ρ' := [some (.tup [.str "line", sh a, sh b, sh c]), some (.fz (r.map pt)), some (.fz (s.map pt)), y, none, none, none, none, none, none, none, none, none]) ?_
  refine as_cons (a1_par3 (i := 4) (j := 5) (l := 6) (d1 := sh a) (d2 := sh b) (d3 := sh c) (avs_c (av_ixT (ds := [.str "line", sh a, sh b, sh c]) (av_var (i := 0) rfl (.inl rfl) rfl) av_int rfl) (avs_c (av_ixT (ds := [.str "line", sh a, sh b, sh c]) (av_var (i := 0) rfl (.inl rfl) rfl) av_int rfl) (avs_c (av_ixT (ds := [.str "line", sh a, sh b, sh c]) (av_var (i := 0) rfl (.inl rfl) rfl) av_int rfl) avs_nil))) ?_ (fun ta ha => ps_par3 rfl sc__law_is_line.nd rfl rfl rfl (by decide) (by decide) (by decide) rfl rfl rfl ha (by rfl)))
  refine AS.ro (ρ' := [some (.tup [.str "line", sh a, sh b, sh c]), some (.fz (r.map pt)), some (.fz (s.map pt)), y, some (sh a), some (sh b), some (sh c), none, none, none, none, none, none]) ?_
  refine as_cons (a1_for hp rfl (AI.to (ai_list (AV.ae (av_lst (ds := [.tup [.int 1, .fz (r.map pt)], .tup [.int (-1), .fz (s.map pt)]]) (avs_c (av_tup (avs_c av_int (avs_c (av_var (i := 1) rfl (.inl rfl) rfl) avs_nil))) (avs_c (av_tup (avs_c (av_neg av_int) (avs_c (av_var (i := 2) rfl (.inl rfl) rfl) avs_nil))) avs_nil))) ⟨_, IsL.fz, fun _ => True, fun i => D.tup [.int (if i = 0 then 1 else -1), .fz ((if i = 0 then r else s).map pt)], fun i hi => (by match i, hi with
      | 0, _ => rfl
      | 1, _ => rfl), fun _ _ => IsL.fz, ⟨fun i ρ A' => ∃ (y2 : Option D) (y3 : Option D) (y4 : Option D) (y5 : Option D) (y6 : Option D) (y7 : Option D), ρ = [some (.tup [.str "line", sh a, sh b, sh c]), some (.fz (r.map pt)), some (.fz (s.map pt)), y, some (sh a), some (sh b), some (sh c), y2, y3, y4, y5, y6, y7] ∧ A = A', ⟨_, _, _, _, _, _, rfl, rfl⟩, fun i ρ A' hle hI => trivial, fun i ρ A' hi hI => ⟨_, _, (ag_tup rfl (ags_cons (ag_name (i := 7) sc__law_is_line.nd rfl (.inl rfl)) (ags_cons (ag_name (i := 8) sc__law_is_line.nd rfl (.inl rfl)) ags_nil))), ?_⟩, fun ρ A' hI => ?_⟩⟩))))
  · skip
    obtain ⟨y2, y3, y4, y5, y6, y7, rfl, rfl⟩ := hI
    obtain ⟨sg, hsg⟩ : ∃ sg : Int, sg = if i = 0 then 1 else -1 := ⟨_, rfl⟩
    obtain ⟨rw9, hrw⟩ : ∃ rw9 : List Pt, rw9 = if i = 0 then r else s := ⟨_, rfl⟩
    rw [← hsg, ← hrw]
    have hcase : (sg = 1 ∧ ∀ p ∈ rw9, a * p.1 + b * p.2 < c) ∨ (sg = -1 ∧ ∀ p ∈ rw9, c < a * p.1 + b * p.2) := by
      by_cases h0 : i = 0
      · left; rw [hsg, hrw, if_pos h0, if_pos h0]; exact ⟨rfl, hsep.1⟩
      · right; rw [hsg, hrw, if_neg h0, if_neg h0]; exact ⟨rfl, hsep.2⟩
    have hzr : ∀ p ∈ rw9, SzP m p := fun p hp => hzp p (by
      by_cases h0 : i = 0
      · rw [hrw, if_pos h0] at hp; exact List.mem_append_left _ hp
      · rw [hrw, if_neg h0] at hp; exact List.mem_append_right _ hp)
    have hsg1 : sg.natAbs < 2 ^ 2 := by rcases hcase with h | h <;> rw [h.1] <;> decide
    clear hsg hrw
    refine AS.ro (ρ' := [some (.tup [.str "line", sh a, sh b, sh c]), some (.fz (r.map pt)), some (.fz (s.map pt)), y, some (sh a), some (sh b), some (sh c), some (.int sg), some (.fz (rw9.map pt)), y4, y5, y6, y7]) ?_
    refine as_cons (a1_for hp rfl (ai_F ((0, 0) : Pt) (f := pt) (av_var (i := 8) rfl (.inl rfl) rfl) ⟨fun j ρ A' => ∃ (y8 : Option D) (y9 : Option D) (y10 : Option D) (y11 : Option D), ρ = [some (.tup [.str "line", sh a, sh b, sh c]), some (.fz (r.map pt)), some (.fz (s.map pt)), y, some (sh a), some (sh b), some (sh c), some (.int sg), some (.fz (rw9.map pt)), y8, y9, y10, y11] ∧ A = A', ⟨_, _, _, _, rfl, rfl⟩, fun j ρ A' hle hI => trivial, fun j ρ A' hj hI => ⟨_, _, (ag_tup rfl (ags_cons (ag_name (i := 9) sc__law_is_line.nd rfl (.inl rfl)) (ags_cons (ag_name (i := 10) sc__law_is_line.nd rfl (.inl rfl)) ags_nil))), ?_⟩, fun ρ A' hI => ?_⟩))
    · skip
      obtain ⟨y8, y9, y10, y11, rfl, rfl⟩ := hI
      obtain ⟨q, hq⟩ : ∃ q, q = rw9.getD j ((0, 0) : Pt) := ⟨_, rfl⟩
      have hqm : q ∈ rw9 := by rw [hq]; exact gp_mem hj
      rw [← hq]
      refine AS.ro (ρ' := [some (.tup [.str "line", sh a, sh b, sh c]), some (.fz (r.map pt)), some (.fz (s.map pt)), y, some (sh a), some (sh b), some (sh c), some (.int sg), some (.fz (rw9.map pt)), some (sh q.1), some (sh q.2), y10, y11]) ?_
      have hzq := hzr q hqm
      have z1 := Sz.num hza
      have z2 := Sz.den hza
      have z3 := Sz.num hzb
      have z4 := Sz.den hzb
      have z5 := Sz.num hzc
      have z6 := Sz.den hzc
      have z7 := Sz.num hzq.1
      have z8 := Sz.den hzq.1
      have z9 := Sz.num hzq.2
      have z0 := Sz.den hzq.2
      have hlow : ((a.den : Int) * (q.1.den : Int) * (b.den : Int) * (q.2.den : Int)).natAbs < 2 ^ (m + m + m + m) := (bt_mul (bt_mul (bt_mul z2 z8) z4) z0)
      refine as_set (i := 11) sc__law_is_line.nd rfl (.inl rfl) (AV.ae (av_mul (av_mul (av_mul (av_ixT (av_var (i := 4) rfl (.inl rfl) rfl) av_int rfl) (av_ixT (av_var (i := 9) rfl (.inl rfl) rfl) av_int rfl) (mulx z2 z8 (by omega))) (av_ixT (av_var (i := 5) rfl (.inl rfl) rfl) av_int rfl) (mulx (bt_mul z2 z8) z4 (by omega))) (av_ixT (av_var (i := 10) rfl (.inl rfl) rfl) av_int rfl) (mulx (bt_mul (bt_mul z2 z8) z4) z0 (by omega))) ?_)
      refine AS.ro (ρ' := [some (.tup [.str "line", sh a, sh b, sh c]), some (.fz (r.map pt)), some (.fz (s.map pt)), y, some (sh a), some (sh b), some (sh c), some (.int sg), some (.fz (rw9.map pt)), some (sh q.1), some (sh q.2), some (.int ((a.den : Int) * (q.1.den : Int) * (b.den : Int) * (q.2.den : Int))), y11]) ?_
      refine as_set (i := 12) sc__law_is_line.nd rfl (.inl rfl) (AV.ae (av_mul (av_mul (av_mul (av_ixT (av_var (i := 4) rfl (.inl rfl) rfl) av_int rfl) (av_ixT (av_var (i := 9) rfl (.inl rfl) rfl) av_int rfl) (mulx z1 z7 (by omega))) (av_ixT (av_var (i := 5) rfl (.inl rfl) rfl) av_int rfl) (mulx (bt_mul z1 z7) z4 (by omega))) (av_ixT (av_var (i := 10) rfl (.inl rfl) rfl) av_int rfl) (mulx (bt_mul (bt_mul z1 z7) z4) z0 (by omega))) ?_)
      refine AS.ro (ρ' := [some (.tup [.str "line", sh a, sh b, sh c]), some (.fz (r.map pt)), some (.fz (s.map pt)), y, some (sh a), some (sh b), some (sh c), some (.int sg), some (.fz (rw9.map pt)), some (sh q.1), some (sh q.2), some (.int ((a.den : Int) * (q.1.den : Int) * (b.den : Int) * (q.2.den : Int))), some (.int (a.num * q.1.num * (b.den : Int) * (q.2.den : Int)))]) ?_
      have hleft : (a.num * q.1.num * (b.den : Int) * (q.2.den : Int) + b.num * q.2.num * (a.den : Int) * (q.1.den : Int)).natAbs < 2 ^ (m + m + m + m + 1) := bt_le (bt_add (bt_mul (bt_mul (bt_mul z1 z7) z4) z0) (bt_mul (bt_mul (bt_mul z3 z9) z2) z8)) (by omega)
      refine as_set (i := 12) sc__law_is_line.nd rfl (.inl rfl) (AV.ae (av_add (av_var (i := 12) rfl (.inl rfl) rfl) (av_mul (av_mul (av_mul (av_ixT (av_var (i := 5) rfl (.inl rfl) rfl) av_int rfl) (av_ixT (av_var (i := 10) rfl (.inl rfl) rfl) av_int rfl) (mulx z3 z9 (by omega))) (av_ixT (av_var (i := 4) rfl (.inl rfl) rfl) av_int rfl) (mulx (bt_mul z3 z9) z2 (by omega))) (av_ixT (av_var (i := 9) rfl (.inl rfl) rfl) av_int rfl) (mulx (bt_mul (bt_mul z3 z9) z2) z8 (by omega)))) ?_)
      refine AS.ro (ρ' := [some (.tup [.str "line", sh a, sh b, sh c]), some (.fz (r.map pt)), some (.fz (s.map pt)), y, some (sh a), some (sh b), some (sh c), some (.int sg), some (.fz (rw9.map pt)), some (sh q.1), some (sh q.2), some (.int ((a.den : Int) * (q.1.den : Int) * (b.den : Int) * (q.2.den : Int))), some (.int (a.num * q.1.num * (b.den : Int) * (q.2.den : Int) + b.num * q.2.num * (a.den : Int) * (q.1.den : Int)))]) ?_
      have hlt : sg * (a.num * q.1.num * (b.den : Int) * (q.2.den : Int) + b.num * q.2.num * (a.den : Int) * (q.1.den : Int)) * (c.den : Int) < sg * c.num * ((a.den : Int) * (q.1.den : Int) * (b.den : Int) * (q.2.den : Int)) := by
        rcases hcase with h | h
        · rw [h.1, Int.one_mul, Int.one_mul]; exact (side_num a b c q.1 q.2).mpr (h.2 q hqm)
        · rw [h.1]; exact (side_neg a b c q.1 q.2).mpr (h.2 q hqm)
      refine as_if (bb := false) (AT.is (at_ge (av_mul (av_mul (av_var (i := 7) rfl (.inl rfl) rfl) (av_var (i := 12) rfl (.inl rfl) rfl) (mulx hsg1 hleft (by omega))) (av_ixT (av_var (i := 6) rfl (.inl rfl) rfl) av_int rfl) (mulx (bt_mul hsg1 hleft) z6 (by omega))) (av_mul (av_mul (av_var (i := 7) rfl (.inl rfl) rfl) (av_ixT (av_var (i := 6) rfl (.inl rfl) rfl) av_int rfl) (mulx hsg1 z5 (by omega))) (av_var (i := 11) rfl (.inl rfl) rfl) (mulx (bt_mul hsg1 z5) hlow (by omega)))) (decide_eq_false (by omega))) (fun hb => nomatch hb) (fun _ => as_end ?_)
      exact as_nil ⟨_, _, _, _, rfl, rfl⟩
    obtain ⟨y8, y9, y10, y11, rfl, rfl⟩ := hI
    exact as_nil ⟨_, _, _, _, _, _, rfl, rfl⟩
  obtain ⟨y2, y3, y4, y5, y6, y7, rfl, rfl⟩ := hI
  refine as_retv av_bl hk
def ct__law_share : Ct := fun ds A k _ => ∃ t b : Int, ds = [.int t, .int b] ∧ 0 < b ∧ b.natAbs < 2 ^ 9000 ∧ k (sh ((t : Rat) / (b : Rat))) A
theorem ok__law_share (T : Txt K mg) : Fn P w K mg base "_law_share" 2 ct__law_share := by
  refine fn_mk T.d__law_share sc__law_share (fun ds A k e h => ?_) fun f cdv A0 outer s H E hr hp htk ds A kk ee h => ?_
  · obtain ⟨t, b, rfl, _⟩ := h; rfl
  obtain ⟨t, b, rfl, hb', hz', hk⟩ := h
  have hg : 0 < Nat.gcd t.natAbs b.natAbs := Nat.gcd_pos_of_pos_right _ (by omega)
  have hle : Nat.gcd t.natAbs b.natAbs ≤ b.natAbs := Nat.le_of_dvd (by omega) (Nat.gcd_dvd_right _ _)
  have habs : (if t < 0 then -t else t).natAbs = t.natAbs := by split <;> omega
  refine as_set (i := 2) sc__law_share.nd rfl (.inl rfl) (AV.ae (av_call (d := .int (Nat.gcd t.natAbs b.natAbs : Nat)) (ok__law_part T) (hr.mono (by decide)) rfl (avs_cons (av_abs rfl T.m_abs (av_var (i := 0) rfl (.inl rfl) rfl)) (avs_cons (av_var (i := 1) rfl (.inl rfl) rfl) avs_nil)) ⟨_, _, rfl, by split <;> omega, by omega, by rw [habs], Ext.refl _⟩) ?_)
  have hd : ∀ i : Int, CDivW i (Nat.gcd t.natAbs b.natAbs : Nat) := fun i => divw (b := 9000) (by omega) (by omega) (by decide) (by decide)
  refine as_retv (av_tup (avs_cons (av_div (av_var (i := 0) rfl (.inl rfl) rfl) (av_var (i := 2) rfl (.inl rfl) rfl) (hd _)) (avs_cons (av_div (av_var (i := 1) rfl (.inl rfl) rfl) (av_var (i := 2) rfl (.inl rfl) rfl) (hd _)) avs_nil))) ?_
  rw [share_eq hb']
  exact hk
def axR (p : Pt) (i : Nat) : Rat := ([p.1, p.2, 1] : List Rat).getD i 0
def mnv (us : List Rat) (r : List Pt) (i j : Nat) : Rat := sumN (fun k => us.getD k 0 * axR (gp r k) i) j
theorem mnv_succ (us : List Rat) (r : List Pt) (i j : Nat) : mnv us r i (j + 1) = mnv us r i j + us.getD j 0 * axR (gp r j) i := rfl
theorem axR_sz {m : Nat} {p : Pt} {i : Nat} (h : SzP m p) (hm : 1 ≤ m) (hi : i < 3) : Sz m (axR p i) := by
  match i, hi with
  | 0, _ => exact h.1
  | 1, _ => exact h.2
  | 2, _ => exact sz_one.up hm
theorem mean_step {t b : Int} {u o s : Rat} (hb : 0 < b) (h : (t : Rat) / (b : Rat) = s) : ((t * ((u.den : Int) * (o.den : Int)) + u.num * o.num * b : Int) : Rat) / ((b * ((u.den : Int) * (o.den : Int)) : Int) : Rat) = s + u * o := by
  have hb' : (b : Rat) ≠ 0 := by exact_mod_cast (Int.ne_of_gt hb)
  have hu := q_den u; have ho := q_den o
  have pu : (u.den : Rat) ≠ 0 := by exact_mod_cast Nat.pos_iff_ne_zero.mp u.den_pos
  have po : (o.den : Rat) ≠ 0 := by exact_mod_cast Nat.pos_iff_ne_zero.mp o.den_pos
  push_cast
  rw [← hu, ← ho, ← h]
  generalize (u.den : Rat) = U at *
  generalize (o.den : Rat) = O at *
  generalize (b : Rat) = B at *
  generalize (t : Rat) = T at *
  have hd : B * (U * O) ≠ 0 := fun e => by
    rcases Rat.mul_eq_zero.mp e with z | z
    · exact hb' z
    · rcases Rat.mul_eq_zero.mp z with z | z
      · exact pu z
      · exact po z
  have e : T * (U * O) + u * U * (o * O) * B = (T / B + u * o) * (B * (U * O)) := by grind
  rw [e]
  generalize B * (U * O) = D at *
  grind
def mn3 (us : List Rat) (r : List Pt) (n : Nat) : List Rat := [mnv us r 0 n, mnv us r 1 n, mnv us r 2 n]
theorem mn3_get {us : List Rat} {r : List Pt} {n i : Nat} (hi : i < 3) : (mn3 us r n).take (i + 1) = (mn3 us r n).take i ++ [mnv us r i n] := by
  match i, hi with
  | 0, _ => rfl
  | 1, _ => rfl
  | 2, _ => rfl
def ct__law_mean : Ct := fun ds A k _ => ∃ (d : D) (us : List Rat) (r : List Pt) (n m : Nat), ds = [d, .fz (r.map pt)] ∧ IsL A d (us.map sh) ∧ us.length = r.length ∧ r.length ≤ 12 ∧ (∀ u ∈ us, 0 ≤ u) ∧ (∀ u ∈ us, Sz n u) ∧ (∀ p ∈ r, SzP m p) ∧ 1 ≤ m ∧ 12 * (n + m) < 9000 ∧ k (.fz ((mn3 us r us.length).map sh)) A
theorem ok__law_mean (T : Txt K mg) : Fn P w K mg base "_law_mean" 3 ct__law_mean := by
  refine fn_mk T.d__law_mean sc__law_mean (fun ds A k e h => ?_) fun f cdv A0 outer s0 H E hr hp htk ds A kk ee h => ?_
  · obtain ⟨d, us, r, n, m, rfl, _⟩ := h; rfl
  obtain ⟨d, us, r, n, m, rfl, hL, hlen, hl8, hnn, hzu, hzp, hm1, hnm, hk⟩ := h
  refine as_if (bb := false) (AT.is (AW.at (aw_or (at_not (at_val (av_isi rfl T.m_isinstance (avs_c (av_var (i := 0) rfl (.inl rfl) rfl) (avs_c (av_ty rfl T.m_list bo_list) avs_nil)) (.lst hL) kt_list_list))) fun _ => (aw_or1 (at_ne (av_lenD rfl T.m_len (av_var (i := 0) rfl (.inl rfl) rfl) hL) (av_lenD rfl T.m_len (av_var (i := 1) rfl (.inl rfl) rfl) IsL.fz))))) (by simp [hlen])) (fun hb => nomatch hb) (fun _ => as_end ?_)
  refine as_set (i := 2) sc__law_mean.nd rfl (.inl rfl) (AL.ae (al_lst (ds := []) avs_nil) fun g hg => ?_)
  refine AS.ro (ρ' := [some (d), some (.fz (r.map pt)), some (.ref g), none, none, none, none, none, none, none]) ?_
  have hL2 : ∀ o, IsL (aupd A g o) d (us.map sh) := fun o => hL.ext (Ext.new hg)
  refine as_cons (a1_for hp rfl (ai_rng rfl T.m_range av_int (by walk_at "om") (by walk_at "om") ⟨fun i ρ A' => ∃ (y : Option D) (y2 : Option D) (y3 : Option D) (y4 : Option D) (y5 : Option D) (y6 : Option D) (y7 : Option D), ρ = [some (d), some (.fz (r.map pt)), some (.ref g), y, y2, y3, y4, y5, y6, y7] ∧ A' = aupd A g (.lst (((mn3 us r us.length).take i).map sh)), ⟨_, _, _, _, _, _, _, rfl, rfl⟩, fun i ρ A' hle hI => trivial, fun i ρ A' hi hI => ⟨_, _, (ag_name (i := 3) sc__law_mean.nd rfl (.inl rfl)), ?_⟩, fun ρ A' hI => ?_⟩))
  · skip
    obtain ⟨y, y2, y3, y4, y5, y6, y7, rfl, rfl⟩ := hI
    have hi3 : i < 3 := by omega
    refine AS.ro (ρ' := [some (d), some (.fz (r.map pt)), some (.ref g), some (.int (i : Int)), y2, y3, y4, y5, y6, y7]) ?_
    refine as_set (i := 4) sc__law_mean.nd rfl (.inl rfl) (AV.ae av_int ?_)
    refine AS.ro (ρ' := [some (d), some (.fz (r.map pt)), some (.ref g), some (.int (i : Int)), some (.int (0 : Int)), y3, y4, y5, y6, y7]) ?_
    refine as_set (i := 5) sc__law_mean.nd rfl (.inl rfl) (AV.ae av_int ?_)
    refine AS.ro (ρ' := [some (d), some (.fz (r.map pt)), some (.ref g), some (.int (i : Int)), some (.int (0 : Int)), some (.int (1 : Int)), y4, y5, y6, y7]) ?_
    refine as_cons (a1_for hp rfl (ai_zipD (0 : Rat) ((0, 0) : Pt) rfl T.m_zip (avs_c (av_var (i := 0) rfl (.inl rfl) rfl) (avs_c (av_var (i := 1) rfl (.inl rfl) rfl) avs_nil)) (hL2 _) IsL.fz ⟨fun j ρ A' => ∃ (y8 : Option D) (y9 : Option D) (y10 : Option D) (y11 : Option D) (t : Int) (bo : Int), ρ = [some (d), some (.fz (r.map pt)), some (.ref g), some (.int (i : Int)), some (.int t), some (.int bo), y8, y9, y10, y11] ∧ A' = aupd A g (.lst (((mn3 us r us.length).take i).map sh)) ∧ (0 < bo) ∧ (bo.natAbs < 2 ^ (j * (n + m) + 1)) ∧ (t.natAbs < 2 ^ (j * (n + m + 1) + 1)) ∧ ((t : Rat) / (bo : Rat) = mnv us r i j), ⟨_, _, _, _, 0, 1, rfl, rfl, by decide, by rw [Nat.zero_mul]; decide, by rw [Nat.zero_mul]; decide, by show ((0 : Int) : Rat) / ((1 : Int) : Rat) = 0; rw [Rat.intCast_zero]; grind⟩, fun j ρ A' hle hI => ⟨by obtain ⟨y8, y9, y10, y11, t, bo, rfl, rfl, hbo, hbz, htz, hv⟩ := hI; exact hL2 _, IsL.fz⟩, fun j ρ A' hj hI => ⟨_, _, (ag_tup rfl (ags_cons (ag_name (i := 6) sc__law_mean.nd rfl (.inl rfl)) (ags_cons (ag_name (i := 7) sc__law_mean.nd rfl (.inl rfl)) ags_nil))), ?_⟩, fun ρ A' hI => ?_⟩))
    · skip
      obtain ⟨y8, y9, y10, y11, t, bo, rfl, rfl, hbo, hbz, htz, hv⟩ := hI
      have hj8 : j < us.length := by omega
      have hum : us.getD j 0 ∈ us := getD_in (P := fun z => z ∈ us) (fun _ h => h) hj8
      have hzj := hzu _ hum
      have hpm : gp r j ∈ r := gp_mem (by omega)
      have hzo : Sz m (axR (gp r j) i) := axR_sz (hzp _ hpm) hm1 hi3
      have hu0 := hnn _ hum
      refine AS.ro (ρ' := [some (d), some (.fz (r.map pt)), some (.ref g), some (.int (i : Int)), some (.int t), some (.int bo), some (sh (us.getD j 0)), some (pt (gp r j)), y10, y11]) ?_
      have hnum : ¬ (us.getD j 0).num < 0 := by have := Rat.num_nonneg.mpr hu0; omega
      refine as_if (bb := false) (AT.is (AW.at (aw_or (at_not (at_val (AE.av (ae_call (ok__law_is_share T) (hr.mono (by decide)) rfl (AVs.aes (avs_c (av_var (i := 6) rfl (.inl rfl) rfl) avs_nil) ⟨_, rfl, ⟨rfl, Ext.refl _⟩⟩))))) fun _ => (aw_or1 (at_lt (av_ixT (av_var (i := 6) rfl (.inl rfl) rfl) av_int rfl) av_int)))) (by rw [decide_eq_false hnum]; rfl)) (fun hb => nomatch hb) (fun _ => as_end ?_)
      have hat : atI ([(gp r j).1, (gp r j).2, 1].map sh) (i : Int) = some (sh (axR (gp r j) i)) := by
        match i, hi3 with
        | 0, _ => rfl
        | 1, _ => rfl
        | 2, _ => rfl
      refine as_set (i := 8) sc__law_mean.nd rfl (.inl rfl) (AV.ae (av_ixT (AV.is (av_catT (av_var (i := 7) rfl (.inl rfl) rfl) (av_tup (avs_c (AV.is (av_tup (avs_c av_int (avs_c av_int avs_nil))) tup_1) avs_nil))) (show _ = D.tup ([(gp r j).1, (gp r j).2, 1].map sh) from rfl)) (av_var (i := 3) rfl (.inl rfl) rfl) hat) ?_)
      refine AS.ro (ρ' := [some (d), some (.fz (r.map pt)), some (.ref g), some (.int (i : Int)), some (.int t), some (.int bo), some (sh (us.getD j 0)), some (pt (gp r j)), some (sh (axR (gp r j) i)), y11]) ?_
      have u1 := Sz.num hzj
      have u2 := Sz.den hzj
      have o1 := Sz.num hzo
      have o2 := Sz.den hzo
      have du : (0 : Int) < ((us.getD j 0).den : Int) := by have := (us.getD j 0).den_pos; omega
      have do_ : (0 : Int) < ((axR (gp r j) i).den : Int) := by have := (axR (gp r j) i).den_pos; omega
      have hlz := bt_mul u2 o2
      have hbo2 := Int.mul_pos hbo (Int.mul_pos du do_)
      have ej : j * (n + m) + (n + m) = (j + 1) * (n + m) := by rw [Nat.add_mul, Nat.one_mul]
      have ej2 : j * (n + m + 1) + (n + m + 1) = (j + 1) * (n + m + 1) := by rw [Nat.add_mul, Nat.one_mul]
      have ej3 : j * (n + m + 1) = j * (n + m) + j := by rw [Nat.mul_add, Nat.mul_one]
      have hbz2 := bt_le (bt_mul hbz hlz) (show _ ≤ (j + 1) * (n + m) + 1 by omega)
      have hj7 : j ≤ 11 := by omega
      have hb7 : j * (n + m) ≤ 11 * (n + m) := Nat.mul_le_mul_right _ hj7
      have htz2 := bt_le (bt_add (bt_mul htz hlz) (bt_mul (bt_mul u1 o1) hbz)) (show _ ≤ (j + 1) * (n + m + 1) + 1 by omega)
      refine as_set (i := 9) sc__law_mean.nd rfl (.inl rfl) (AV.ae (av_mul (av_ixT (av_var (i := 6) rfl (.inl rfl) rfl) av_int rfl) (av_ixT (av_var (i := 8) rfl (.inl rfl) rfl) av_int rfl) (mulx u2 o2 (by omega))) ?_)
      refine AS.ro (ρ' := [some (d), some (.fz (r.map pt)), some (.ref g), some (.int (i : Int)), some (.int t), some (.int bo), some (sh (us.getD j 0)), some (pt (gp r j)), some (sh (axR (gp r j) i)), some (.int (((us.getD j 0).den : Int) * ((axR (gp r j) i).den : Int)))]) ?_
      refine as_set (i := 4) sc__law_mean.nd rfl (.inl rfl) (AV.ae (av_add (av_mul (av_var (i := 4) rfl (.inl rfl) rfl) (av_var (i := 9) rfl (.inl rfl) rfl) (mulx htz hlz (by omega))) (av_mul (av_mul (av_ixT (av_var (i := 6) rfl (.inl rfl) rfl) av_int rfl) (av_ixT (av_var (i := 8) rfl (.inl rfl) rfl) av_int rfl) (mulx u1 o1 (by omega))) (av_var (i := 5) rfl (.inl rfl) rfl) (mulx (bt_mul u1 o1) hbz (by omega)))) ?_)
      refine AS.ro (ρ' := [some (d), some (.fz (r.map pt)), some (.ref g), some (.int (i : Int)), some (.int (t * (((us.getD j 0).den : Int) * ((axR (gp r j) i).den : Int)) + (us.getD j 0).num * (axR (gp r j) i).num * bo)), some (.int bo), some (sh (us.getD j 0)), some (pt (gp r j)), some (sh (axR (gp r j) i)), some (.int (((us.getD j 0).den : Int) * ((axR (gp r j) i).den : Int)))]) ?_
      refine as_set (i := 5) sc__law_mean.nd rfl (.inl rfl) (AV.ae (av_mul (av_var (i := 5) rfl (.inl rfl) rfl) (av_var (i := 9) rfl (.inl rfl) rfl) (mulx hbz hlz (by omega))) ?_)
      exact as_nil ⟨_, _, _, _, (t * (((us.getD j 0).den : Int) * ((axR (gp r j) i).den : Int)) + (us.getD j 0).num * (axR (gp r j) i).num * bo), (bo * (((us.getD j 0).den : Int) * ((axR (gp r j) i).den : Int))), rfl, rfl, hbo2, hbz2, htz2, (mean_step hbo hv).trans (mnv_succ us r i j).symm⟩
    obtain ⟨y8, y9, y10, y11, t, bo, rfl, rfl, hbo, hbz, htz, hv⟩ := hI
    rw [show min us.length r.length = us.length by omega] at hbz htz hv
    refine AS.ro (ρ' := [some (d), some (.fz (r.map pt)), some (.ref g), some (.int (i : Int)), some (.int t), some (.int bo), y8, y9, y10, y11]) ?_
    have h89 : us.length * (n + m) ≤ 12 * (n + m) := Nat.mul_le_mul_right _ (by omega)
    refine as_cons (a1_expr (ae_append (AV.ae (av_var (i := 2) rfl (.inl rfl) rfl) ⟨_, rfl, ⟨_, aupd_same⟩, AV.ae (AV.is (AE.av (ae_call (ok__law_share T) (hr.mono (by decide)) rfl (AVs.aes (avs_c (av_var (i := 4) rfl (.inl rfl) rfl) (avs_c (av_var (i := 5) rfl (.inl rfl) rfl) avs_nil)) ⟨_, _, rfl, hbo, bt_le hbz (by omega), rfl, Ext.refl _⟩))) (show _ = sh (mnv us r i us.length) by rw [hv])) ⟨_, aupd_same, (by rw [List.length_map, List.length_take]; exact small1000 (by omega)), ?_⟩⟩)))
    have hpF : aupd (aupd A g (.lst (((mn3 us r us.length).take i).map sh))) g (.lst (((mn3 us r us.length).take i).map sh ++ [sh (mnv us r i us.length)])) = aupd A g (.lst (((mn3 us r us.length).take (i + 1)).map sh)) := by rw [aupd_aupd, map_snoc, mn3_get hi3]
    exact as_nil ⟨_, _, _, _, _, _, _, rfl, hpF⟩
  obtain ⟨y, y2, y3, y4, y5, y6, y7, rfl, rfl⟩ := hI
  refine AS.ro (ρ' := [some (d), some (.fz (r.map pt)), some (.ref g), y, y2, y3, y4, y5, y6, y7]) ?_
  refine as_fz 2 rfl hg ?_
  refine AS.ro (ρ' := [some (d), some (.fz (r.map pt)), some (.fz ((mn3 us r us.length).map sh)), y, y2, y3, y4, y5, y6, y7]) ?_
  refine as_retv (av_var (i := 2) rfl (.inl rfl) rfl) hk
theorem at_eqS7 {X : Cx} {ρ : Ro} {A : AH} {pos : Pos} {a b : Expr} {x y : Str} (ha : AV X a ρ A (.str x)) (hb : AV X b ρ A (.str y)) : AT X (.Compare a [.Eq] [b] pos) ρ A (decide (x = y)) := at_cmp op_eq (nomark _) ha hb fun v u H r1 r2 l Q q => by
  rw [r1.str_of, r2.str_of]
  refine ⟨rfl, ?_⟩
  have : decide (V.str x = V.str y) = decide (x = y) := by
    by_cases h : x = y
    · subst h; simp
    · rw [decide_eq_false h, decide_eq_false fun e => h (V.str.inj e)]
  rw [this]
  exact q H (TS.refl H) l
theorem cm_mn3 {us vs : List Rat} {r s : List Pt} (h : CmOk us vs r s) : mn3 us r us.length = mn3 vs s vs.length ∧ (mn3 us r us.length).getD 2 0 = 1 := by
  have e0 : mnv us r 0 us.length = mnv vs s 0 vs.length := h.x
  have e1 : mnv us r 1 us.length = mnv vs s 1 vs.length := h.y
  have one : ∀ (us : List Rat) (r : List Pt), sumN (fun i => us.getD i 0) us.length = 1 → mnv us r 2 us.length = 1 := fun us r hs => by
    rw [← hs]
    exact sumN_cg _ fun k _ => show us.getD k 0 * 1 = us.getD k 0 by rw [Rat.mul_one]
  have e2 := one us r h.su
  have e3 := one vs s h.sv
  unfold mn3
  rw [e0, e1, e2, e3]
  exact ⟨rfl, rfl⟩
theorem av_notNoneF {X : Cx} {ρ : Ro} {A : AH} {a : Expr} {pos p2 : Pos} {j : Nat} {ds : List D} (ha : AV X a ρ A (.fz ds)) : AT X (.Compare a [.IsNot] [.Constant .none j p2] pos) ρ A true :=
  at_cmp (y := .non) op_notN (nomark _) ha av_non fun v u H r1 r2 l Q q => by
    obtain ⟨c, o, vs, rfl, h1, h2⟩ := r1.fz_of
    exact ⟨r2.non_of, q H (TS.refl H) l⟩
def ct__law_kind : Ct := fun ds A k _ => (∃ (a b c : Rat) (r s : List Pt) (m : Nat), ds = [.tup [.str "line", sh a, sh b, sh c], .fz (r.map pt), .fz (s.map pt)] ∧ SepL a b c r s ∧ Sz m a ∧ Sz m b ∧ Sz m c ∧ (∀ p ∈ r ++ s, SzP m p) ∧ m ≤ 8000 ∧ k (.str "line") A) ∨
  (∃ (d1 d2 : D) (us vs : List Rat) (r s : List Pt) (n m : Nat), ds = [.tup [.str "common", d1, d2], .fz (r.map pt), .fz (s.map pt)] ∧ IsL A d1 (us.map sh) ∧ IsL A d2 (vs.map sh) ∧ CmOk us vs r s ∧ r.length ≤ 12 ∧ s.length ≤ 12 ∧ (∀ u ∈ us ++ vs, Sz n u) ∧ (∀ p ∈ r ++ s, SzP m p) ∧ 1 ≤ m ∧ 12 * (n + m) < 9000 ∧ k (.str "common") A)
theorem ok__law_kind (T : Txt K mg) : Fn P w K mg base "_law_kind" 4 ct__law_kind := by
  refine fn_mk T.d__law_kind sc__law_kind (fun ds A k e h => ?_) fun f cdv A0 outer s0 H E hr hp htk ds A kk ee h => ?_
  · rcases h with ⟨a, b, c, r, s, m, rfl, _⟩ | ⟨d1, d2, us, vs, r, s, n, m, rfl, _⟩ <;> rfl
  rcases h with ⟨a, b, c, r, s, m, rfl, hsep, hza, hzb, hzc, hzp, hm, hk⟩ | ⟨d1, d2, us, vs, r, s, n, m, rfl, hL1, hL2, hc, hr8, hs8, hzu, hzp, hm1, hnm, hk⟩
  · skip
    refine as_if (bb := false) (AT.is (AW.at (aw_or (at_not (at_val (av_isi rfl T.m_isinstance (avs_c (av_var (i := 0) rfl (.inl rfl) rfl) (avs_c (av_ty rfl T.m_tuple bo_tuple) avs_nil)) (.tup _) kt_tuple_tuple))) fun _ => (aw_or1 (at_eq (av_lenT rfl T.m_len (av_var (i := 0) rfl (.inl rfl) rfl)) av_int)))) (by rfl)) (fun hb => nomatch hb) (fun _ => as_end ?_)
    refine as_if (bb := true) (AT.is (AW.at (aw_and (at_eqS7 (av_ixT (ds := [.str "line", sh a, sh b, sh c]) (av_var (i := 0) rfl (.inl rfl) rfl) av_int rfl) av_str) fun _ => (aw_and (at_eq (av_lenT rfl T.m_len (av_var (i := 0) rfl (.inl rfl) rfl)) av_int) fun _ => (aw_and1 (at_val (AE.av (ae_call (ok__law_is_line T) (hr.mono (by decide)) rfl (AVs.aes (avs_c (av_var (i := 0) rfl (.inl rfl) rfl) (avs_c (av_var (i := 1) rfl (.inl rfl) rfl) (avs_c (av_var (i := 2) rfl (.inl rfl) rfl) avs_nil))) ⟨a, b, c, r, s, m, rfl, hsep, hza, hzb, hzc, hzp, hm, rfl, Ext.refl _⟩)))))))) (by rfl)) (fun _ => ?_) (fun hb => nomatch hb)
    exact as_retv av_str hk
  refine as_if (bb := false) (AT.is (AW.at (aw_or (at_not (at_val (av_isi rfl T.m_isinstance (avs_c (av_var (i := 0) rfl (.inl rfl) rfl) (avs_c (av_ty rfl T.m_tuple bo_tuple) avs_nil)) (.tup _) kt_tuple_tuple))) fun _ => (aw_or1 (at_eq (av_lenT rfl T.m_len (av_var (i := 0) rfl (.inl rfl) rfl)) av_int)))) (by rfl)) (fun hb => nomatch hb) (fun _ => as_end ?_)
  refine as_if (bb := false) (AT.is (AW.at (aw_and (at_eqS7 (av_ixT (ds := [.str "common", d1, d2]) (av_var (i := 0) rfl (.inl rfl) rfl) av_int rfl) av_str) fun h => absurd (show decide (("common" : Str) = "line") = true from h) (by decide))) (show (decide (("common" : Str) = "line") && true) = false by decide)) (fun hb => nomatch hb) (fun _ => as_end ?_)
  refine as_if (bb := true) (AT.is (AW.at (aw_and (at_eqS7 (av_ixT (ds := [.str "common", d1, d2]) (av_var (i := 0) rfl (.inl rfl) rfl) av_int rfl) av_str) fun _ => (aw_and1 (at_eq (av_lenT rfl T.m_len (av_var (i := 0) rfl (.inl rfl) rfl)) av_int)))) (by rfl)) (fun _ => ?_) (fun hb => nomatch hb)
  obtain ⟨hmn, hm2⟩ := cm_mn3 hc
  refine as_set (i := 3) sc__law_kind.nd rfl (.inl rfl) (AV.ae (AE.av (ae_call (ok__law_mean T) (hr.mono (by decide)) rfl (AVs.aes (avs_c (av_ixT (ds := [.str "common", d1, d2]) (av_var (i := 0) rfl (.inl rfl) rfl) av_int rfl) (avs_c (av_var (i := 1) rfl (.inl rfl) rfl) avs_nil)) ⟨d1, us, r, n, m, rfl, hL1, hc.lu, hr8, hc.nu, fun u hu => hzu u (List.mem_append_left _ hu), fun p hp => hzp p (List.mem_append_left _ hp), hm1, hnm, rfl, Ext.refl _⟩))) ?_)
  refine as_if (bb := true) (AT.is (AW.at (aw_and (av_notNoneF (av_var (i := 3) rfl (.inl rfl) rfl)) fun _ => (aw_and (at_eqL eR hr (av_var (i := 3) rfl (.inl rfl) rfl) (AE.av (ae_call (ok__law_mean T) (hr.mono (by decide)) rfl (AVs.aes (avs_c (av_ixT (ds := [.str "common", d1, d2]) (av_var (i := 0) rfl (.inl rfl) rfl) av_int rfl) (avs_c (av_var (i := 2) rfl (.inl rfl) rfl) avs_nil)) ⟨d2, vs, s, n, m, rfl, hL2, hc.lv, hs8, hc.nv, fun u hu => hzu u (List.mem_append_right _ hu), fun p hp => hzp p (List.mem_append_right _ hp), hm1, hnm, rfl, Ext.refl _⟩))) IsL.fz IsL.fz) fun _ => (aw_and1 (at_eqE eR hr (AV.is (av_ixDN (f := sh) (0 : Rat) (av_var (i := 3) rfl (.inl rfl) rfl) IsL.fz av_int (n := 2) rfl (by show 2 < 3; decide)) (show _ = sh (1 : Rat) by rw [hm2])) (AV.is (av_tup (avs_c av_int (avs_c av_int avs_nil))) tup_1)))))) (by rw [hmn]; simp)) (fun _ => ?_) (fun hb => nomatch hb)
  exact as_retv av_str hk
def ct__law_cell_at : Ct := fun ds A k _ => ∃ (ns : List Int) (i : Int), ds = [.cl (ns.map D.int), .int i] ∧ 0 ≤ i ∧ k (.int (cellM ns i)) A
theorem ok__law_cell_at (T : Txt K mg) : Fn P w K mg base "_law_cell_at" 1 ct__law_cell_at := by
  refine fn_mk T.d__law_cell_at sc__law_cell_at (fun ds A k e h => ?_) fun f cdv A0 outer s H E hr hp htk ds A kk ee h => ?_
  · obtain ⟨ns, i, rfl, _⟩ := h; rfl
  obtain ⟨ns, i, rfl, h0, hk⟩ := h
  refine as_if (at_lt (av_var (i := 1) rfl (.inl rfl) rfl) (av_lenL rfl T.m_len (av_var (i := 0) rfl (.inl rfl) rfl) IsL.cl)) (fun hb => ?_) (fun hb => ?_)
  · have hlt : i < ((ns.map D.int).length : Nat) := of_decide_eq_true hb
    rw [List.length_map] at hlt
    exact as_retv (av_ixL (av_var (i := 0) rfl (.inl rfl) rfl) (av_var (i := 1) rfl (.inl rfl) rfl) IsL.cl (atZ h0 hlt)) hk
  · refine as_end ?_
    have hlt : ¬ i < ((ns.map D.int).length : Nat) := of_decide_eq_false hb
    rw [List.length_map] at hlt
    have e : cellM ns i = 0 := by
      unfold cellM
      rw [List.getD_eq_getElem?_getD, List.getElem?_eq_none (by omega)]
      rfl
    rw [e] at hk
    exact as_retv av_int hk
def ct__law_stream : Ct := fun ds A k _ => ∃ c p : Int, ds = [.int c, .int p] ∧ p.natAbs < 2 ^ 64 ∧ ∀ ns : List Int, ns.length = 24 → (∀ n ∈ ns, 0 ≤ n ∧ n < 33554432) → ∀ q, A q = none → k (.ref q) (aupd A q (.lst (ns.map D.int)))
theorem ok__law_stream (T : Txt K mg) : Fn P w K mg base "_law_stream" 1 ct__law_stream := by
  refine fn_mk T.d__law_stream sc__law_stream (fun ds A k e h => ?_) fun f cdv A0 outer s H E hr hp htk ds A kk ee h => ?_
  · obtain ⟨c, p, rfl, _⟩ := h; rfl
  obtain ⟨c, p, rfl, hpz, hk⟩ := h
  refine as_set (i := 2) sc__law_stream.nd rfl (.inl rfl) (AV.ae (av_mod (av_add (av_var (i := 0) rfl (.inl rfl) rfl) (av_mul av_int (av_var (i := 1) rfl (.inl rfl) rfl) (by walk_at "sz"))) av_int (by walk_at "sz")) ?_)
  refine as_set (i := 3) sc__law_stream.nd rfl (.inl rfl) (AL.ae (al_lst avs_nil) fun q hq => ?_)
  refine as_cons (a1_for hp rfl (ai_range1 rfl T.m_range (AV.ae av_int ⟨_, rfl, by decide, by decide, ?_⟩)))
  refine ⟨fun i ρ A' => ∃ (v : Int) (ns : List Int) (y : Option D), ρ = [some (.int c), some (.int p), some (.int v), some (.ref q), y] ∧ A' = aupd A q (.lst (ns.map D.int)) ∧ 0 ≤ v ∧ v < 2147483647 ∧ ns.length = i ∧ ∀ n ∈ ns, 0 ≤ n ∧ n < 33554432,
    ⟨_, [], none, rfl, rfl, Int.emod_nonneg _ (by decide), ?_, rfl, fun n hn => nomatch hn⟩, fun i ρ A' _ hI => trivial, fun i ρ A' hi hI => ?_, fun ρ A' hI => ?_⟩
  · have := Int.emod_lt_of_pos (c + 7919 * p) (show (0 : Int) < 2147483629 by decide)
    omega
  · obtain ⟨v, ns, y, rfl, rfl, hv0, hv1, hl, hn⟩ := hI
    refine ⟨_, _, (ag_name (i := 4) sc__law_stream.nd rfl (.inl rfl)), ?_⟩
    have hi' : i < 25 := hi
    refine as_set (i := 2) sc__law_stream.nd rfl (.inl rfl) (AV.ae (av_mod (av_add (av_add (av_mul (av_var (i := 2) rfl (.inl rfl) rfl) av_int (by walk_at "sz")) (av_mul av_int (av_var (i := 4) rfl (.inl rfl) rfl) (by walk_at "sz"))) av_int) av_int (by walk_at "sz")) ?_)
    have hw0 := Int.emod_nonneg (v * 48271 + 2 * (0 + (i : Int)) + 11) (show (2147483647 : Int) ≠ 0 by decide)
    have hw1 := Int.emod_lt_of_pos (v * 48271 + 2 * (0 + (i : Int)) + 11) (show (0 : Int) < 2147483647 by decide)
    refine as_cons (a1_expr (ae_append (AV.ae (av_var (i := 3) rfl (.inl rfl) rfl) ⟨q, rfl, ⟨_, aupd_same⟩, AV.ae (av_div (av_var (i := 2) rfl (.inl rfl) rfl) av_int (by walk_at "sz")) ⟨_, aupd_same, by rw [List.length_map, hl]; exact small1000 (by omega), ?_⟩⟩)))
    refine as_nil ⟨_, ns ++ [(v * 48271 + 2 * (0 + (i : Int)) + 11) % 2147483647 / 64], _, rfl, ?_, hw0, hw1, by rw [List.length_append, hl]; rfl, fun n hm => ?_⟩
    · rw [aupd_aupd, List.map_append]; rfl
    · rcases List.mem_append.mp hm with h | h
      · exact hn n h
      · rw [List.mem_singleton.mp h]; omega
  · obtain ⟨v, ns, y, rfl, rfl, hv0, hv1, hl, hn⟩ := hI
    have hl : ns.length = 25 := hl
    refine as_ret (AE.weak (AL.ae (al_slL (av_var (i := 3) rfl (.inl rfl) rfl) (IsL.of aupd_same) (lo' := some 1) (hi' := none) av_int trivial) fun r hr => ?_))
    rw [cut1D, ← List.map_drop]
    refine ⟨aupd A r (.lst ((ns.drop 1).map D.int)), (Ext.new hq).upd _ _, hk (ns.drop 1) (by rw [List.length_drop, hl]) (fun n hm => hn n (List.mem_of_mem_drop hm)) r ((Ext.new hq).none hr)⟩
structure DrB (mo : Nat) (bo : Int) (c : List Pt) : Prop where
  l0 : 0 < c.length
  l1 : c.length ≤ mo
  ov : ∀ p ∈ c, OvP bo 110 p
theorem DrB.rev {mo : Nat} {bo : Int} {c : List Pt} (h : DrB mo bo c) : DrB mo bo c.reverse := ⟨by rw [List.length_reverse]; exact h.l0, by rw [List.length_reverse]; exact h.l1, fun p hp => h.ov p (List.mem_reverse.mp hp)⟩
def ct__law_drawn_two : Ct := fun ds A k _ => ∃ (ns : List Int) (mo : Nat), ds = [.cl (ns.map D.int), .int (mo : Int)] ∧ 1 ≤ mo ∧ mo ≤ 12 ∧ ∀ (bo : Int) (c1 c2 : List Pt), 1 ≤ bo → bo ≤ 3 → DrB mo bo c1 → DrB mo bo c2 → k (.fz (([c1, c2] : List (List Pt)).map (fzs pt))) A
theorem ok__law_drawn_two (T : Txt K mg) : Fn P w K mg base "_law_drawn_two" 4 ct__law_drawn_two := by
  refine fn_mk T.d__law_drawn_two sc__law_drawn_two (fun ds A k e h => ?_) fun f cdv A0 outer s H E hr hp htk ds A kk ee h => ?_
  · obtain ⟨ns, mo, rfl, _⟩ := h; rfl
  obtain ⟨ns, mo, rfl, hm1, hm8, hk⟩ := h
  refine as_setv (f := D.int) (i := 2) sc__law_drawn_two.nd rfl (.inl rfl) (AE.av (ae_call (ok__law_cell_at T) (hr.mono (by decide)) rfl (AVs.aes (avs_c (av_var (i := 0) rfl (.inl rfl) rfl) (avs_c av_int avs_nil)) ⟨_, _, rfl, by omega, ⟨rfl, Ext.refl _⟩⟩))) fun hd hhd => ?_
  refine AS.ro (ρ' := [some (.cl (ns.map D.int)), some (.int (mo : Int)), some (.int hd), none, none, none, none, none, none, none, none, none, none, none, none]) ?_
  clear hhd
  refine as_set (i := 3) sc__law_drawn_two.nd rfl (.inl rfl) (AE.frz (ae_call (ok__law_stream T) (hr.mono (by decide)) rfl (AVs.aes (avs_c (av_var (i := 2) rfl (.inl rfl) rfl) (avs_c av_int avs_nil)) ⟨_, _, rfl, by omega, fun ss hssl hssb q hq => fz_k hq ?_⟩)))
  refine AS.ro (ρ' := [some (.cl (ns.map D.int)), some (.int (mo : Int)), some (.int hd), some (.fz (ss.map D.int)), none, none, none, none, none, none, none, none, none, none, none]) ?_
  refine as_setv (f := D.int) (i := 4) sc__law_drawn_two.nd rfl (.inl rfl) (av_ixD (f := D.int) (0 : Int) (av_lst (ds := ([1, 1, 1 + hd / 5 % 1000000000000000000000000000000] : List Int).map D.int) (avs_c av_int (avs_c av_int (avs_c (AV.is (av_add av_int (av_mod (av_div (av_var (i := 2) rfl (.inl rfl) rfl) av_int (by walk_at "sz")) (av_pow av_int av_int (by walk_at "sz")) (by walk_at "sz"))) (show _ = D.int (1 + hd / 5 % 1000000000000000000000000000000) from rfl)) avs_nil)))) IsL.fz (av_mod (av_ixDN (f := D.int) (0 : Int) (av_var (i := 3) rfl (.inl rfl) rfl) IsL.fz av_int (n := 0) (by first | rfl | omega) (by first | rfl | omega)) av_int (by walk_at "sz")) (by walk_at "om") (show _ < ((3 : Nat) : Int) by omega)) fun sc hsc_ => ?_
  refine AS.ro (ρ' := [some (.cl (ns.map D.int)), some (.int (mo : Int)), some (.int hd), some (.fz (ss.map D.int)), some (.int sc), none, none, none, none, none, none, none, none, none, none]) ?_
  have hsc : sc.natAbs < 2 ^ 101 := by
    have : (ss.getD 0 0 % 3).toNat < 3 := by omega
    rw [hsc_]
    match (ss.getD 0 0 % 3).toNat, this with
    | 0, _ => exact (by decide : (1 : Int).natAbs < 2 ^ 101)
    | 1, _ => exact (by decide : (1 : Int).natAbs < 2 ^ 101)
    | 2, _ => show (1 + hd / 5 % 1000000000000000000000000000000 : Int).natAbs < 2 ^ 101; omega
  clear hsc_
  refine as_setv (f := D.int) (i := 5) sc__law_drawn_two.nd rfl (.inl rfl) (av_ixD (f := D.int) (0 : Int) (av_lst (ds := ([0, 0, (hd / 7 % 1000000000000000000000000000000) * (1 - 2 * (ss.getD 1 0 % 2))] : List Int).map D.int) (avs_c av_int (avs_c av_int (avs_c (av_mulS (AV.is (av_mod (av_div (av_var (i := 2) rfl (.inl rfl) rfl) av_int (by walk_at "sz")) (av_pow av_int av_int (by walk_at "sz")) (by walk_at "sz")) (show _ = D.int (hd / 7 % 1000000000000000000000000000000) from rfl)) (av_sub av_int (av_mulS av_int (av_mod (av_ixDN (f := D.int) (0 : Int) (av_var (i := 3) rfl (.inl rfl) rfl) IsL.fz av_int (n := 1) (by first | rfl | omega) (by first | rfl | omega)) av_int (by walk_at "sz")) (.inl (by decide)))) (.inr (by omega))) avs_nil)))) IsL.fz (av_mod (av_div (av_ixDN (f := D.int) (0 : Int) (av_var (i := 3) rfl (.inl rfl) rfl) IsL.fz av_int (n := 1) (by first | rfl | omega) (by first | rfl | omega)) av_int (by walk_at "sz")) av_int (by walk_at "sz")) (by walk_at "om") (show _ < ((3 : Nat) : Int) by omega)) fun fa hfa_ => ?_
  refine AS.ro (ρ' := [some (.cl (ns.map D.int)), some (.int (mo : Int)), some (.int hd), some (.fz (ss.map D.int)), some (.int sc), some (.int fa), none, none, none, none, none, none, none, none, none]) ?_
  have hfa : fa.natAbs < 2 ^ 101 := by
    have : (ss.getD 1 0 / 2 % 3).toNat < 3 := by omega
    rw [hfa_]
    match (ss.getD 1 0 / 2 % 3).toNat, this with
    | 0, _ => exact (by decide : (0 : Int).natAbs < 2 ^ 101)
    | 1, _ => exact (by decide : (0 : Int).natAbs < 2 ^ 101)
    | 2, _ =>
      show ((hd / 7 % 1000000000000000000000000000000) * (1 - 2 * (ss.getD 1 0 % 2)) : Int).natAbs < 2 ^ 101
      rcases (show ss.getD 1 0 % 2 = 0 ∨ ss.getD 1 0 % 2 = 1 by omega) with h | h <;> rw [h] <;> omega
  clear hfa_
  refine as_setv (f := D.int) (i := 6) sc__law_drawn_two.nd rfl (.inl rfl) (av_add av_int (av_mod (av_ixDN (f := D.int) (0 : Int) (av_var (i := 3) rfl (.inl rfl) rfl) IsL.fz av_int (n := 2) (by first | rfl | omega) (by first | rfl | omega)) av_int (by walk_at "sz"))) fun bo hbo => ?_
  refine AS.ro (ρ' := [some (.cl (ns.map D.int)), some (.int (mo : Int)), some (.int hd), some (.fz (ss.map D.int)), some (.int sc), some (.int fa), some (.int bo), none, none, none, none, none, none, none, none]) ?_
  have hbo1 : 1 ≤ bo ∧ bo ≤ 3 := by omega
  clear hbo
  refine as_set (i := 7) sc__law_drawn_two.nd rfl (.inl rfl) (AL.ae (al_lst (ds := []) avs_nil) fun g hg => ?_)
  refine AS.ro (ρ' := [some (.cl (ns.map D.int)), some (.int (mo : Int)), some (.int hd), some (.fz (ss.map D.int)), some (.int sc), some (.int fa), some (.int bo), some (.ref g), none, none, none, none, none, none, none]) ?_
  refine as_cons (a1_for hp rfl (ai_rng rfl T.m_range av_int (by walk_at "om") (by walk_at "om") ⟨fun i ρ A' => ∃ (y : Option D) (y2 : Option D) (y3 : Option D) (y4 : Option D) (y5 : Option D) (y6 : Option D) (y7 : Option D) (bs : List (List Pt)), ρ = [some (.cl (ns.map D.int)), some (.int (mo : Int)), some (.int hd), some (.fz (ss.map D.int)), some (.int sc), some (.int fa), some (.int bo), some (.ref g), y, y2, y3, y4, y5, y6, y7] ∧ A' = aupd A g (.lst (bs.map (fzs pt))) ∧ (bs.length = i) ∧ (∀ c ∈ bs, DrB mo bo c), ⟨_, _, _, _, _, _, _, [], rfl, rfl, rfl, fun c hc => nomatch hc⟩, fun i ρ A' hle hI => trivial, fun i ρ A' hi hI => ⟨_, _, (ag_name (i := 8) sc__law_drawn_two.nd rfl (.inl rfl)), ?_⟩, fun ρ A' hI => ?_⟩))
  · skip
    obtain ⟨y, y2, y3, y4, y5, y6, y7, bs, rfl, rfl, hbl, hbs⟩ := hI
    refine as_set (i := 9) sc__law_drawn_two.nd rfl (.inl rfl) (AL.ae (al_lst (ds := []) avs_nil) fun z hz => ?_)
    refine AS.ro (ρ' := [some (.cl (ns.map D.int)), some (.int (mo : Int)), some (.int hd), some (.fz (ss.map D.int)), some (.int sc), some (.int fa), some (.int bo), some (.ref g), some (.int (i : Int)), some (.ref z), y3, y4, y5, y6, y7]) ?_
    have hq0 := Int.emod_nonneg (ss.getD (3 + i) 0) (show (mo : Int) ≠ 0 by omega)
    have hq1 := Int.emod_lt_of_pos (ss.getD (3 + i) 0) (show 0 < (mo : Int) by omega)
    obtain ⟨w9, hw9⟩ : ∃ w9, w9 = ss.getD (3 + i) 0 % (mo : Int) := ⟨_, rfl⟩
    rw [← hw9] at hq0 hq1
    refine as_cons (a1_for hp rfl (ai_rng rfl T.m_range (AV.is (av_add av_int (av_mod (av_ixDN (0 : Int) (f := D.int) (av_var (i := 3) rfl (.inl rfl) rfl) IsL.fz (av_add av_int (av_var (i := 8) rfl (.inl rfl) rfl)) (n := 3 + i) (by omega) (by omega)) (av_var (i := 1) rfl (.inl rfl) rfl) (show (0 : Int) < (mo : Int) by omega))) (show _ = D.int (1 + w9) by rw [hw9])) (by walk_at "om") (by walk_at "om") ⟨fun j ρ A' => ∃ (y8 : Option D) (y9 : Option D) (y10 : Option D) (y11 : Option D) (y12 : Option D) (us : List Pt), ρ = [some (.cl (ns.map D.int)), some (.int (mo : Int)), some (.int hd), some (.fz (ss.map D.int)), some (.int sc), some (.int fa), some (.int bo), some (.ref g), some (.int (i : Int)), some (.ref z), y8, y9, y10, y11, y12] ∧ A' = aupd (aupd A g (.lst (bs.map (fzs pt)))) z (.lst (us.map pt)) ∧ (us.length = j) ∧ (∀ p ∈ us, OvP bo 110 p), ⟨_, _, _, _, _, [], rfl, rfl, rfl, fun p hp => nomatch hp⟩, fun j ρ A' hle hI => trivial, fun j ρ A' hj hI => ⟨_, _, (ag_name (i := 10) sc__law_drawn_two.nd rfl (.inl rfl)), ?_⟩, fun ρ A' hI => ?_⟩))
    · skip
      obtain ⟨y8, y9, y10, y11, y12, us, rfl, rfl, hul0, huv⟩ := hI
      have hmk : 0 ≤ (mo : Int) * (i : Int) := Int.mul_nonneg (by omega) (by omega)
      refine as_setv (f := D.int) (i := 11) sc__law_drawn_two.nd rfl (.inl rfl) (AE.av (ae_call (ok__law_cell_at T) (hr.mono (by decide)) rfl (AVs.aes (avs_c (av_var (i := 0) rfl (.inl rfl) rfl) (avs_c (av_add (av_add av_int (av_mulS (av_var (i := 1) rfl (.inl rfl) rfl) (av_var (i := 8) rfl (.inl rfl) rfl) (.inl (by omega)))) (av_var (i := 10) rfl (.inl rfl) rfl)) avs_nil)) ⟨_, _, rfl, by omega, ⟨rfl, Ext.refl _⟩⟩))) fun ce hce => ?_
      refine AS.ro (ρ' := [some (.cl (ns.map D.int)), some (.int (mo : Int)), some (.int hd), some (.fz (ss.map D.int)), some (.int sc), some (.int fa), some (.int bo), some (.ref g), some (.int (i : Int)), some (.ref z), some (.int (j : Int)), some (.int ce), y10, y11, y12]) ?_
      clear hce
      refine as_set (i := 12) sc__law_drawn_two.nd rfl (.inl rfl) (AE.frz (ae_call (ok__law_stream T) (hr.mono (by decide)) rfl (AVs.aes (avs_c (av_var (i := 11) rfl (.inl rfl) rfl) (avs_c (av_add (av_mulS av_int (av_var (i := 8) rfl (.inl rfl) rfl) (.inl (by decide))) (av_var (i := 10) rfl (.inl rfl) rfl)) avs_nil)) ⟨_, _, rfl, by omega, fun rr hrrl hrrb q hq => fz_k hq ?_⟩)))
      refine AS.ro (ρ' := [some (.cl (ns.map D.int)), some (.int (mo : Int)), some (.int hd), some (.fz (ss.map D.int)), some (.int sc), some (.int fa), some (.int bo), some (.ref g), some (.int (i : Int)), some (.ref z), some (.int (j : Int)), some (.int ce), some (.fz (rr.map D.int)), y11, y12]) ?_
      have hrr0 : 2 ≤ rr.length := by omega
      clear hrrb
      refine as_if1 (f := (fzs D.int)) (fun r2 : (List Int) => 2 ≤ r2.length) 12 (AW.at (aw_and (at_eq (av_mod (av_ixDN (f := D.int) (0 : Int) (av_var (i := 3) rfl (.inl rfl) rfl) IsL.fz av_int (n := 9) (by first | rfl | omega) (by first | rfl | omega)) av_int (by walk_at "sz")) av_int) fun _ => (aw_and1 (at_gt (av_var (i := 11) rfl (.inl rfl) rfl) av_int)))) (fun hb => ?_) (fun hb => ?_) fun r2 hr2 => ?_
      · refine as_set (i := 12) sc__law_drawn_two.nd rfl (.inl rfl) (AV.ae (av_lst (ds := ([ce, ce / 17] : List Int).map D.int) (avs_c (av_var (i := 11) rfl (.inl rfl) rfl) (avs_c (av_div (av_var (i := 11) rfl (.inl rfl) rfl) av_int (by walk_at "sz")) avs_nil))) ?_)
        exact as_nil ⟨[ce, ce / 17], Nat.le_refl 2, rfl, rfl⟩
      · exact as_nil ⟨rr, hrr0, rfl, rfl⟩
      refine as_setv (f := D.int) (i := 13) sc__law_drawn_two.nd rfl (.inl rfl) (av_add (av_mulS (av_sub (av_mod (av_ixDN (f := D.int) (0 : Int) (av_var (i := 12) rfl (.inl rfl) rfl) IsL.fz av_int (n := 0) (by first | rfl | omega) (by first | rfl | omega)) av_int (by walk_at "sz")) av_int) (av_var (i := 4) rfl (.inl rfl) rfl) (.inl (by omega))) (av_var (i := 5) rfl (.inl rfl) rfl)) fun xx hxx_ => ?_
      refine AS.ro (ρ' := [some (.cl (ns.map D.int)), some (.int (mo : Int)), some (.int hd), some (.fz (ss.map D.int)), some (.int sc), some (.int fa), some (.int bo), some (.ref g), some (.int (i : Int)), some (.ref z), some (.int (j : Int)), some (.int ce), some (.fz (r2.map D.int)), some (.int xx), y12]) ?_
      refine as_setv (f := D.int) (i := 14) sc__law_drawn_two.nd rfl (.inl rfl) (av_sub (av_mulS (av_add (av_sub (av_mod (av_ixDN (f := D.int) (0 : Int) (av_var (i := 12) rfl (.inl rfl) rfl) IsL.fz av_int (n := 1) (by first | rfl | omega) (by first | rfl | omega)) av_int (by walk_at "sz")) av_int) (av_mod (av_ixDN (0 : Int) (f := D.int) (av_var (i := 3) rfl (.inl rfl) rfl) IsL.fz (av_add av_int (av_var (i := 8) rfl (.inl rfl) rfl)) (n := 5 + i) (by omega) (by omega)) av_int (by walk_at "sz"))) (av_var (i := 4) rfl (.inl rfl) rfl) (.inl (by omega))) (av_var (i := 5) rfl (.inl rfl) rfl)) fun yy hyy_ => ?_
      refine AS.ro (ρ' := [some (.cl (ns.map D.int)), some (.int (mo : Int)), some (.int hd), some (.fz (ss.map D.int)), some (.int sc), some (.int fa), some (.int bo), some (.ref g), some (.int (i : Int)), some (.ref z), some (.int (j : Int)), some (.int ce), some (.fz (r2.map D.int)), some (.int xx), some (.int yy)]) ?_
      have hxx : xx.natAbs < 2 ^ 110 := by rw [hxx_]; exact bt_le (bt_add (bt_mul (show (r2.getD 0 0 % 17 - 8 : Int).natAbs < 2 ^ 4 by omega) hsc) hfa) (by decide)
      have hyy : yy.natAbs < 2 ^ 110 := by rw [hyy_]; exact bt_le (bt_sub (bt_mul (show (r2.getD 1 0 % 17 - 8 + ss.getD (5 + i) 0 % 5 : Int).natAbs < 2 ^ 4 by omega) hsc) hfa) (by decide)
      refine as_cons (a1_expr (ae_append (AV.ae (av_var (i := 9) rfl (.inl rfl) rfl) ⟨_, rfl, ⟨_, aupd_same⟩, AV.ae (AV.is (av_tup (avs_c (AE.av (ae_call (ok__law_share T) (hr.mono (by decide)) rfl (AVs.aes (avs_c (av_var (i := 13) rfl (.inl rfl) rfl) (avs_c (av_var (i := 6) rfl (.inl rfl) rfl) avs_nil)) ⟨_, _, rfl, by omega, bt_le (show bo.natAbs < 2 ^ 40 by omega) (by decide), ⟨rfl, Ext.refl _⟩⟩))) (avs_c (AE.av (ae_call (ok__law_share T) (hr.mono (by decide)) rfl (AVs.aes (avs_c (av_var (i := 14) rfl (.inl rfl) rfl) (avs_c (av_var (i := 6) rfl (.inl rfl) rfl) avs_nil)) ⟨_, _, rfl, by omega, bt_le (show bo.natAbs < 2 ^ 40 by omega) (by decide), ⟨rfl, Ext.refl _⟩⟩))) avs_nil))) (tup_pt _ _)) ⟨_, aupd_same, (by rw [List.length_map]; exact small1000 (by omega)), ?_⟩⟩)))
      exact as_nil ⟨_, _, _, _, _, (us ++ [(((xx : Int) : Rat) / ((bo : Int) : Rat), ((yy : Int) : Rat) / ((bo : Int) : Rat))]), rfl, by rw [aupd_aupd, ← map_snoc], by rw [List.length_append, hul0]; rfl, fun p hp => (List.mem_append.mp hp).elim (huv p) (fun e => by rw [List.mem_singleton.mp e]; exact ⟨⟨xx, rfl, hxx⟩, ⟨yy, rfl, hyy⟩⟩)⟩
    obtain ⟨y8, y9, y10, y11, y12, us, rfl, rfl, hul0, huv⟩ := hI
    refine as_fz 9 rfl hz ?_
    refine AS.ro (ρ' := [some (.cl (ns.map D.int)), some (.int (mo : Int)), some (.int hd), some (.fz (ss.map D.int)), some (.int sc), some (.int fa), some (.int bo), some (.ref g), some (.int (i : Int)), some (.fz (us.map pt)), y8, y9, y10, y11, y12]) ?_
    have hul : 0 < us.length ∧ us.length ≤ mo := by omega
    refine as_cons (a1_expr (ae_append (AV.ae (av_var (i := 7) rfl (.inl rfl) rfl) ⟨_, rfl, ⟨_, aupd_same⟩, AV.ae (av_var (i := 9) rfl (.inl rfl) rfl) ⟨_, aupd_same, (by rw [List.length_map]; exact small1000 (by omega)), ?_⟩⟩)))
    exact as_nil ⟨_, _, _, _, _, _, _, (bs ++ [us]), rfl, by rw [aupd_aupd, ← map_snoc], by rw [List.length_append, hbl]; rfl, fun c hc => (List.mem_append.mp hc).elim (hbs c) (fun e => by rw [List.mem_singleton.mp e]; exact ⟨hul.1, hul.2, huv⟩)⟩
  obtain ⟨y, y2, y3, y4, y5, y6, y7, bs, rfl, rfl, hbl, hbs⟩ := hI
  obtain ⟨c1, c2, rfl⟩ : ∃ c1 c2, bs = [c1, c2] := match bs, hbl with | [c1, c2], _ => ⟨c1, c2, rfl⟩
  have d1 := hbs c1 (by simp)
  have d2 := hbs c2 (by simp)
  clear hbl hbs
  refine as_ifm (fun ρ A' => ∃ c3 : List Pt, ρ = [some (.cl (ns.map D.int)), some (.int (mo : Int)), some (.int hd), some (.fz (ss.map D.int)), some (.int sc), some (.int fa), some (.int bo), some (.ref g), y, y2, y3, y4, y5, y6, y7] ∧ A' = aupd A g (.lst (([c1, c3] : List (List Pt)).map (fzs pt))) ∧ DrB mo bo c3) (at_eq (av_mod (av_ixDN (f := D.int) (0 : Int) (av_var (i := 3) rfl (.inl rfl) rfl) IsL.fz av_int (n := 8) (by first | rfl | omega) (by first | rfl | omega)) av_int (by walk_at "sz")) av_int) (fun hb => ?_) (fun hb => ?_) ?_
  · skip
    refine as_cons (a1_setL (av_rev (av_ixDN (f := (fzs pt)) ([] : List Pt) (av_var (i := 7) rfl (.inl rfl) rfl) (IsL.of aupd_same) av_int (n := 0) rfl (show 0 < 2 by decide)) IsL.fz) (av_var (i := 7) rfl (.inl rfl) rfl) av_int aupd_same (m := 1) rfl ?_)
    exact as_nil ⟨c1.reverse, rfl, by rw [aupd_aupd]; rfl, d1.rev⟩
  · exact as_nil ⟨c2, rfl, rfl, d2⟩
  rintro ρ A' ⟨c3, rfl, rfl, d3⟩
  refine as_fz 7 rfl hg ?_
  refine AS.ro (ρ' := [some (.cl (ns.map D.int)), some (.int (mo : Int)), some (.int hd), some (.fz (ss.map D.int)), some (.int sc), some (.int fa), some (.int bo), some (.fz (([c1, c3] : List (List Pt)).map (fzs pt))), y, y2, y3, y4, y5, y6, y7]) ?_
  refine as_retv (av_var (i := 7) rfl (.inl rfl) rfl) (hk bo c1 c3 hbo1.1 hbo1.2 d1 d3)
theorem av_eqS7 {X : Cx} {ρ : Ro} {A : AH} {pos : Pos} {a b : Expr} {x y : Str} (ha : AV X a ρ A (.str x)) (hb : AV X b ρ A (.str y)) : AV X (.Compare a [.Eq] [b] pos) ρ A (.bl (decide (x = y))) := av_cmp op_eq (nomark _) ha hb fun v u H r1 r2 l Q q => by
  rw [r1.str_of, r2.str_of]
  refine ⟨rfl, ?_⟩
  have : decide (V.str x = V.str y) = decide (x = y) := by
    by_cases h : x = y
    · subst h; simp
    · rw [decide_eq_false h, decide_eq_false fun e => h (V.str.inj e)]
  rw [this]
  exact blz q H (TS.refl H) l
theorem at_neS7 {X : Cx} {ρ : Ro} {A : AH} {pos : Pos} {a b : Expr} {x y : Str} (ha : AV X a ρ A (.str x)) (hb : AV X b ρ A (.str y)) : AT X (.Compare a [.NotEq] [b] pos) ρ A (!decide (x = y)) := at_cmp op_ne (nomark _) ha hb fun v u H r1 r2 l Q q => by
  rw [r1.str_of, r2.str_of]
  refine ⟨rfl, ?_⟩
  have : decide (V.str x = V.str y) = decide (x = y) := by
    by_cases h : x = y
    · subst h; simp
    · rw [decide_eq_false h, decide_eq_false fun e => h (V.str.inj e)]
  rw [this]
  exact q H (TS.refl H) l
theorem SepL.turn {a b c : Rat} {r s : List Pt} (h : SepL a b c r s) : SepL (-a) (-b) (-c) s r := ⟨fun p hp => by have := h.2 p hp; grind, fun p hp => by have := h.1 p hp; grind⟩
theorem CmOk.turn {us vs : List Rat} {r s : List Pt} (h : CmOk us vs r s) : CmOk vs us s r := ⟨h.lv, h.lu, h.nv, h.nu, h.sv, h.su, h.x.symm, h.y.symm⟩
theorem HM.turn {r s : List Pt} (h : HM r s) : HM s r := let ⟨us, vs, c⟩ := h; ⟨vs, us, c.turn⟩
theorem ok_law (T : Txt K mg) {f : Addr} {fd : FuncData} (F : Fun K "law" "law" s_law f fd) : FnOk P w K mg base (L2N.CX P w) 6 f fd ["_law_script"] (spOf K ctLaw) := by
  refine fnok_mk F sc_law (fun ds A k e h => ?_) fun cdv A0 outer s0 H E hr0 hp htk ds A kk ee h => ?_
  · obtain ⟨ns, rfl, _⟩ := h; rfl
  obtain ⟨ns, rfl, hl63, hk⟩ := h
  obtain ⟨mo, hmo⟩ : ∃ mo : Nat, (mo : Int) = ([8, 5, 8, 12] : List Int).getD (cellM ns 1 % 4).toNat 0 ∧ 1 ≤ mo ∧ mo ≤ 12 := by
    have h4 : (cellM ns 1 % 4).toNat < 4 := by omega
    generalize (cellM ns 1 % 4).toNat = i at h4
    match i, h4 with
    | 0, _ => exact ⟨8, rfl, by decide, by decide⟩
    | 1, _ => exact ⟨5, rfl, by decide, by decide⟩
    | 2, _ => exact ⟨8, rfl, by decide, by decide⟩
    | 3, _ => exact ⟨12, rfl, by decide, by decide⟩
  refine as_cons (a1_asg (ae_call (ok__law_drawn_two T) (hr0.mono (by decide)) rfl (AVs.aes (avs_c (av_var (i := 0) rfl (.inl rfl) rfl) (avs_c (AV.is (av_ixD (f := D.int) (0 : Int) (av_lst (ds := ([8, 5, 8, 12] : List Int).map D.int) (avs_c av_int (avs_c av_int (avs_c av_int (avs_c av_int avs_nil))))) IsL.fz (av_mod (AE.av (ae_call (ok__law_cell_at T) (hr0.mono (by decide)) rfl (AVs.aes (avs_c (av_var (i := 0) rfl (.inl rfl) rfl) (avs_c av_int avs_nil)) ⟨_, _, rfl, by decide, ⟨rfl, Ext.refl _⟩⟩))) av_int (by walk_at "sz")) (Int.emod_nonneg _ (by decide)) (Int.emod_lt_of_pos _ (by decide))) (show _ = D.int (mo : Int) by rw [hmo.1])) avs_nil)) ⟨_, mo, rfl, hmo.2.1, hmo.2.2, fun bo r s hb1 hb3 hR hS => ⟨_, ag_fz rfl (ags_cons (ag_name (i := 1) sc_law.nd rfl (.inl rfl)) (ags_cons (ag_name (i := 2) sc_law.nd rfl (.inl rfl)) ags_nil)), ?_⟩⟩)))
  refine AS.ro (ρ' := [some (.cl (ns.map D.int)), some (.fz (r.map pt)), some (.fz (s.map pt)), none, none, none]) ?_
  have hr00 := hR.l0; have hr12 : r.length ≤ 12 := Nat.le_trans hR.l1 hmo.2.2; have hs0 := hS.l0; have hs12 : s.length ≤ 12 := Nat.le_trans hS.l1 hmo.2.2
  have hbz : bo.natAbs < 2 ^ 110 := by omega
  have hov : ∀ p ∈ r ++ s, OvP bo 110 p := fun p hp => (List.mem_append.mp hp).elim (hR.ov p) (hS.ov p)
  clear hR hS
  refine as_set (i := 3) sc_law.nd rfl (.inl rfl) (AL.ae (al_lst (ds := ([r, s] : List (List Pt)).map (fzs pt)) (avs_c (av_listF (f := pt) rfl T.m_list (av_var (i := 1) rfl (.inl rfl) rfl) IsL.fz) (avs_c (av_listF (f := pt) rfl T.m_list (av_var (i := 2) rfl (.inl rfl) rfl) IsL.fz) avs_nil))) fun q hq => ?_)
  refine as_fz 3 rfl hq ?_
  refine AS.ro (ρ' := [some (.cl (ns.map D.int)), some (.fz (r.map pt)), some (.fz (s.map pt)), some (.fz (([r, s] : List (List Pt)).map (fzs pt))), none, none]) ?_
  refine as_set (i := 4) sc_law.nd rfl (.inl rfl) (ae_call (ok_parting T) (hr0.mono (by decide)) rfl (AVs.aes (avs_c (AV.is (av_ixDN (f := fzs pt) ([] : List Pt) (av_var (i := 3) rfl (.inl rfl) rfl) IsL.fz av_int (n := 0) rfl (by simp)) (show _ = D.fz (r.map pt) from rfl)) (avs_c (AV.is (av_ixDN (f := fzs pt) ([] : List Pt) (av_var (i := 3) rfl (.inl rfl) rfl) IsL.fz av_int (n := 1) rfl (by simp)) (show _ = D.fz (s.map pt) from rfl)) avs_nil)) ⟨_, _, r, s, bo, 110, rfl, IsM.fz _, IsM.fz _, hov, by omega, hbz, by decide, hr00, hs0, by omega, by omega, by have := Nat.mul_le_mul hr12 hs12; omega, fun a b c hsep ha hb hc => ?_, fun us vs q1 q2 A9 hcm hzu hx hq1 hq2 hne h1 h2 => ?_⟩))
  · refine as_set (i := 5) sc_law.nd rfl (.inl rfl) (AV.ae (AE.av (ae_call (ok__law_kind T) (hr0.mono (by decide)) rfl (AVs.aes (avs_c (av_var (i := 4) rfl (.inl rfl) rfl) (avs_c (av_var (i := 1) rfl (.inl rfl) rfl) (avs_c (av_var (i := 2) rfl (.inl rfl) rfl) avs_nil))) (.inl ⟨a, b, c, r, s, 8 * 110 + 12, rfl, hsep, ha, hb, hc, fun p hp => ((fun p hp => ovp_sz (by omega) hbz (hov p hp)) p hp).up (by decide), by decide, rfl, Ext.refl _⟩)))) ?_)
    refine as_if (bb := false) (AT.is (AW.at (aw_or (at_eqS7 (av_var (i := 5) rfl (.inl rfl) rfl) av_str) fun _ => aw_or1 (at_neE (eL (eL eP (dn_eP.up (by decide))) ((dn_eL dn_eP).up (by decide))) (x := [r, s]) (y := [r, s]) hr0 (av_var (i := 3) rfl (.inl rfl) rfl) (av_lst (ds := ([r, s] : List (List Pt)).map (fzs pt)) (avs_c (av_var (i := 1) rfl (.inl rfl) rfl) (avs_c (av_var (i := 2) rfl (.inl rfl) rfl) avs_nil)))))) (by rw [decide_eq_true rfl]; rfl)) (fun h => nomatch h) (fun _ => as_end ?_)
    refine as_if (bb := false) (AT.is (at_eqS7 (av_var (i := 5) rfl (.inl rfl) rfl) av_str) (by rfl)) (fun h => nomatch h) (fun _ => as_end ?_)
    refine as_if (bb := false) (AT.is (at_neS7 (AE.av (ae_call (ok__law_kind T) (hr0.mono (by decide)) rfl (aes_cons (ae_call (ok_parting T) (hr0.mono (by decide)) rfl (AVs.aes (avs_c (AV.is (av_ixDN (f := fzs pt) ([] : List Pt) (av_var (i := 3) rfl (.inl rfl) rfl) IsL.fz av_int (n := 1) rfl (by simp)) (show _ = D.fz (s.map pt) from rfl)) (avs_c (AV.is (av_ixDN (f := fzs pt) ([] : List Pt) (av_var (i := 3) rfl (.inl rfl) rfl) IsL.fz av_int (n := 0) rfl (by simp)) (show _ = D.fz (r.map pt) from rfl)) avs_nil)) ⟨_, _, s, r, bo, 110, rfl, IsM.fz _, IsM.fz _, (fun p hp => hov p ((List.mem_append.mp hp).elim (List.mem_append_right _) (List.mem_append_left _))), by omega, hbz, by decide, hs0, hr00, by omega, by omega, by have := Nat.mul_le_mul hs12 hr12; omega, fun a9 b9 c9 hs9 ha9 hb9 hc9 => AVs.aes (avs_c (av_var (i := 2) rfl (.inl rfl) rfl) (avs_c (av_var (i := 1) rfl (.inl rfl) rfl) avs_nil)) (.inl ⟨a9, b9, c9, s, r, 8 * 110 + 12, rfl, hs9, ha9, hb9, hc9, fun p hp => ((fun p hp => ovp_sz (by omega) hbz ((fun p hp => hov p ((List.mem_append.mp hp).elim (List.mem_append_right _) (List.mem_append_left _))) p hp)) p hp).up (by decide), by decide, rfl, Ext.refl _⟩), fun us9 vs9 q1 q2 A9 hcm _ _ _ _ _ _ _ => absurd ⟨us9, vs9, hcm⟩ (sep_not hsep.turn)⟩))))) (av_var (i := 5) rfl (.inl rfl) rfl)) (by rfl)) (fun h => nomatch h) (fun _ => as_end ?_)
    exact as_retv (AV.is (av_eqS7 (AE.av (ae_call (ok__law_kind T) (hr0.mono (by decide)) rfl (aes_cons (ae_call (ok_parting T) (hr0.mono (by decide)) rfl (AVs.aes (avs_c (AV.is (av_ixDN (f := fzs pt) ([] : List Pt) (av_var (i := 3) rfl (.inl rfl) rfl) IsL.fz av_int (n := 0) rfl (by simp)) (show _ = D.fz (r.map pt) from rfl)) (avs_c (AV.is (av_ixDN (f := fzs pt) ([] : List Pt) (av_var (i := 3) rfl (.inl rfl) rfl) IsL.fz av_int (n := 1) rfl (by simp)) (show _ = D.fz (s.map pt) from rfl)) avs_nil)) ⟨_, _, r, s, bo, 110, rfl, IsM.fz _, IsM.fz _, hov, by omega, hbz, by decide, hr00, hs0, by omega, by omega, by have := Nat.mul_le_mul hr12 hs12; omega, fun a9 b9 c9 hs9 ha9 hb9 hc9 => AVs.aes (avs_c (av_var (i := 1) rfl (.inl rfl) rfl) (avs_c (av_var (i := 2) rfl (.inl rfl) rfl) avs_nil)) (.inl ⟨a9, b9, c9, r, s, 8 * 110 + 12, rfl, hs9, ha9, hb9, hc9, fun p hp => ((fun p hp => ovp_sz (by omega) hbz (hov p hp)) p hp).up (by decide), by decide, rfl, Ext.refl _⟩), fun us9 vs9 q1 q2 A9 hcm _ _ _ _ _ _ _ => absurd ⟨us9, vs9, hcm⟩ (sep_not hsep)⟩))))) (av_var (i := 5) rfl (.inl rfl) rfl)) (show _ = D.bl true from congrArg D.bl (decide_eq_true rfl))) (hk _)
  · have hHM : HM r s := ⟨us, vs, hcm⟩
    refine as_set (i := 5) sc_law.nd rfl (.inl rfl) (AV.ae (AE.av (ae_call (ok__law_kind T) (hr0.mono (by decide)) rfl (AVs.aes (avs_c (av_var (i := 4) rfl (.inl rfl) rfl) (avs_c (av_var (i := 1) rfl (.inl rfl) rfl) (avs_c (av_var (i := 2) rfl (.inl rfl) rfl) avs_nil))) (.inr ⟨_, _, us, vs, r, s, 4 * 110 + 10, 110, rfl, IsL.of h1, IsL.of h2, hcm, hr12, hs12, hzu, (fun p hp => ovp_sz (by omega) hbz (hov p hp)), by decide, by decide, rfl, Ext.refl _⟩)))) ?_)
    refine as_if (bb := false) (AT.is (AW.at (aw_or (at_eqS7 (av_var (i := 5) rfl (.inl rfl) rfl) av_str) fun _ => aw_or1 (at_neE (eL (eL eP (dn_eP.up (by decide))) ((dn_eL dn_eP).up (by decide))) (x := [r, s]) (y := [r, s]) hr0 (av_var (i := 3) rfl (.inl rfl) rfl) (av_lst (ds := ([r, s] : List (List Pt)).map (fzs pt)) (avs_c (av_var (i := 1) rfl (.inl rfl) rfl) (avs_c (av_var (i := 2) rfl (.inl rfl) rfl) avs_nil)))))) (by rw [decide_eq_true rfl]; rfl)) (fun h => nomatch h) (fun _ => as_end ?_)
    refine as_if (bb := true) (AT.is (at_eqS7 (av_var (i := 5) rfl (.inl rfl) rfl) av_str) (by rfl)) (fun _ => ?_) (fun h => nomatch h)
    refine as_cons (a1_expr (ae_append (AV.ae (av_ixT (av_var (i := 4) rfl (.inl rfl) rfl) av_int (d := .ref q1) rfl) ⟨_, rfl, ⟨_, h1⟩, AV.ae (AV.is (av_tup (avs_c av_int (avs_c av_int avs_nil))) (show _ = sh 1 from rfl)) ⟨_, h1, small1000 (by rw [List.length_map, hcm.lu]; omega), ?_⟩⟩)))
    refine as_cons (a1_expr (ae_clear (AV.ae (av_ixT (av_var (i := 4) rfl (.inl rfl) rfl) av_int (d := .ref q2) rfl) ⟨q2, _, rfl, by rw [aupd_ne hne.symm]; exact h2, ?_⟩)))
    refine as_nil ?_
    refine as_if (bb := false) (AT.is (at_neS7 (AE.av (ae_call (ok__law_kind T) (hr0.mono (by decide)) rfl (aes_cons (ae_call (ok_parting T) (hr0.mono (by decide)) rfl (AVs.aes (avs_c (AV.is (av_ixDN (f := fzs pt) ([] : List Pt) (av_var (i := 3) rfl (.inl rfl) rfl) IsL.fz av_int (n := 1) rfl (by simp)) (show _ = D.fz (s.map pt) from rfl)) (avs_c (AV.is (av_ixDN (f := fzs pt) ([] : List Pt) (av_var (i := 3) rfl (.inl rfl) rfl) IsL.fz av_int (n := 0) rfl (by simp)) (show _ = D.fz (r.map pt) from rfl)) avs_nil)) ⟨_, _, s, r, bo, 110, rfl, IsM.fz _, IsM.fz _, (fun p hp => hov p ((List.mem_append.mp hp).elim (List.mem_append_right _) (List.mem_append_left _))), by omega, hbz, by decide, hs0, hr00, by omega, by omega, by have := Nat.mul_le_mul hs12 hr12; omega, fun a9 b9 c9 hs9 _ _ _ => absurd hHM.turn (sep_not hs9), fun us9 vs9 q1 q2 A9 hcm hzu hx hq1 hq2 hne h1 h2 => AVs.aes (avs_c (av_var (i := 2) rfl (.inl rfl) rfl) (avs_c (av_var (i := 1) rfl (.inl rfl) rfl) avs_nil)) (.inr ⟨_, _, us9, vs9, s, r, 4 * 110 + 10, 110, rfl, IsL.of h1, IsL.of h2, hcm, hs12, hr12, hzu, (fun p hp => ovp_sz (by omega) hbz ((fun p hp => hov p ((List.mem_append.mp hp).elim (List.mem_append_right _) (List.mem_append_left _))) p hp)), by decide, by decide, rfl, hx⟩)⟩))))) (av_var (i := 5) rfl (.inl rfl) rfl)) (by rfl)) (fun h => nomatch h) (fun _ => as_end ?_)
    exact as_retv (AV.is (av_eqS7 (AE.av (ae_call (ok__law_kind T) (hr0.mono (by decide)) rfl (aes_cons (ae_call (ok_parting T) (hr0.mono (by decide)) rfl (AVs.aes (avs_c (AV.is (av_ixDN (f := fzs pt) ([] : List Pt) (av_var (i := 3) rfl (.inl rfl) rfl) IsL.fz av_int (n := 0) rfl (by simp)) (show _ = D.fz (r.map pt) from rfl)) (avs_c (AV.is (av_ixDN (f := fzs pt) ([] : List Pt) (av_var (i := 3) rfl (.inl rfl) rfl) IsL.fz av_int (n := 1) rfl (by simp)) (show _ = D.fz (s.map pt) from rfl)) avs_nil)) ⟨_, _, r, s, bo, 110, rfl, IsM.fz _, IsM.fz _, hov, by omega, hbz, by decide, hr00, hs0, by omega, by omega, by have := Nat.mul_le_mul hr12 hs12; omega, fun a9 b9 c9 hs9 _ _ _ => absurd hHM (sep_not hs9), fun us9 vs9 q1 q2 A9 hcm hzu hx hq1 hq2 hne h1 h2 => AVs.aes (avs_c (av_var (i := 1) rfl (.inl rfl) rfl) (avs_c (av_var (i := 2) rfl (.inl rfl) rfl) avs_nil)) (.inr ⟨_, _, us9, vs9, r, s, 4 * 110 + 10, 110, rfl, IsL.of h1, IsL.of h2, hcm, hr12, hs12, hzu, (fun p hp => ovp_sz (by omega) hbz (hov p hp)), by decide, by decide, rfl, hx⟩)⟩))))) (av_var (i := 5) rfl (.inl rfl) rfl)) (show _ = D.bl true from congrArg D.bl (decide_eq_true rfl))) (hk _)
end
end Lw
namespace Lw
open PySem PySem.Spec PyProof.Rows L2 C7
theorem fin {l : PySem.W.OpenLaw} {w : World} {K : Frag} {h : Heap} {mg : Str → Option Value} (X : K.In h) (G : h.Ns mainGlobals mg) {C_SeatError C_NoShare c_NOUGHT : Addr} {u_NOUGHT v_NOUGHT : Tok} {o_NOUGHT : Obj} {w_NOUGHT : Nat}
    (d_common_part : DefF K mg "common_part" s_common_part ["one", "other"])
    (d_share : DefF K mg "share" s_share ["top", "bottom"])
    (d_plus : DefF K mg "plus" s_plus ["one", "other"])
    (d_whole_points : DefF K mg "whole_points" s_whole_points ["points"])
    (d_goes_left : DefF K mg "goes_left" s_goes_left ["one", "other", "third"])
    (d_chain : DefF K mg "chain" s_chain ["some"])
    (d_hull_of_whole : DefF K mg "hull_of_whole" s_hull_of_whole ["some"])
    (d_turn_of : DefF K mg "turn_of" s_turn_of ["one", "other"])
    (d_along : DefF K mg "along" s_along ["one", "other"])
    (d_steps_between : DefF K mg "steps_between" s_steps_between ["some", "others"])
    (d_ahead_of : DefF K mg "ahead_of" s_ahead_of ["one"])
    (d_ahead_of_two : DefF K mg "ahead_of_two" s_ahead_of_two ["one", "other"])
    (d_ahead_of_all : DefF K mg "ahead_of_all" s_ahead_of_all ["corners"])
    (d_parts_of_two : DefF K mg "parts_of_two" s_parts_of_two ["one", "other"])
    (d_parts_of : DefF K mg "parts_of" s_parts_of ["corners"])
    (d_line_by : DefF K mg "line_by" s_line_by ["way", "some", "others", "bottom"])
    (d_common_by : DefF K mg "common_by" s_common_by ["parts", "steps", "many", "more"])
    (d_parting : DefF K mg "parting" s_parting ["one", "other"])
    (d__law_cell_at : DefF K mg "_law_cell_at" s__law_cell_at ["_law_script", "_law_k"])
    (d__law_stream : DefF K mg "_law_stream" s__law_stream ["_law_cell", "_law_place"])
    (d__law_whole : DefF K mg "_law_whole" s__law_whole ["_law_found"])
    (d__law_part : DefF K mg "_law_part" s__law_part ["_law_one", "_law_other"])
    (d__law_share : DefF K mg "_law_share" s__law_share ["_law_top", "_law_bottom"])
    (d__law_is_share : DefF K mg "_law_is_share" s__law_is_share ["_law_found"])
    (d__law_drawn_two : DefF K mg "_law_drawn_two" s__law_drawn_two ["_law_script", "_law_most"])
    (d__law_is_line : DefF K mg "_law_is_line" s__law_is_line ["_law_told", "_law_some", "_law_others"])
    (d__law_mean : DefF K mg "_law_mean" s__law_mean ["_law_parts", "_law_places"])
    (d__law_kind : DefF K mg "_law_kind" s__law_kind ["_law_told", "_law_some", "_law_others"])
    (d_law : LawF K mg s_law "_law_script")
    (a_SeatError : PySem.W.nsIn K mainGlobals "SeatError" = some (some (.ref C_SeatError)))
    (x_SeatError : PySem.W.excIn K C_SeatError [.type "ValueError", .type "Exception", .type "BaseException", .type "object"] "ValueError.__new__" = true)
    (k_SeatError : PySem.W.keepIn K (.ref C_SeatError) = true)
    (b_SeatError : PySem.W.subIn K (.ref C_SeatError) (.type "BaseException") = some true)
    (t_SeatError : PySem.W.typeIn K (.ref C_SeatError) = some (.type "type"))
    (h_SeatError : PySem.W.hasDictIn K C_SeatError = true)
    (a_NoShare : PySem.W.nsIn K mainGlobals "NoShare" = some (some (.ref C_NoShare)))
    (x_NoShare : PySem.W.excIn K C_NoShare [.type "ValueError", .type "Exception", .type "BaseException", .type "object"] "ValueError.__new__" = true)
    (k_NoShare : PySem.W.keepIn K (.ref C_NoShare) = true)
    (b_NoShare : PySem.W.subIn K (.ref C_NoShare) (.type "BaseException") = some true)
    (t_NoShare : PySem.W.typeIn K (.ref C_NoShare) = some (.type "type"))
    (h_NoShare : PySem.W.hasDictIn K C_NoShare = true)
    (m_abs : PySem.W.nsIn K mainGlobals "abs" = some none)
    (m_bool : PySem.W.nsIn K mainGlobals "bool" = some none)
    (m_divmod : PySem.W.nsIn K mainGlobals "divmod" = some none)
    (m_enumerate : PySem.W.nsIn K mainGlobals "enumerate" = some none)
    (m_int : PySem.W.nsIn K mainGlobals "int" = some none)
    (m_isinstance : PySem.W.nsIn K mainGlobals "isinstance" = some none)
    (m_len : PySem.W.nsIn K mainGlobals "len" = some none)
    (m_list : PySem.W.nsIn K mainGlobals "list" = some none)
    (m_max : PySem.W.nsIn K mainGlobals "max" = some none)
    (m_min : PySem.W.nsIn K mainGlobals "min" = some none)
    (m_range : PySem.W.nsIn K mainGlobals "range" = some none)
    (m_set : PySem.W.nsIn K mainGlobals "set" = some none)
    (m_sorted : PySem.W.nsIn K mainGlobals "sorted" = some none)
    (m_sum : PySem.W.nsIn K mainGlobals "sum" = some none)
    (m_tuple : PySem.W.nsIn K mainGlobals "tuple" = some none)
    (m_zip : PySem.W.nsIn K mainGlobals "zip" = some none)
    (g_NOUGHT : PySem.W.nsIn K mainGlobals "NOUGHT" = some (some (.ref c_NOUGHT)))
    (l_NOUGHT : List.lookup c_NOUGHT K = some o_NOUGHT)
    (y_NOUGHT : o_NOUGHT.cls = .type "tuple")
    (s_NOUGHT : o_NOUGHT.data = .seq #[.int 0 u_NOUGHT, .int 1 v_NOUGHT] w_NOUGHT)
    : ∃ st, LawF K mg st "_law_script" ∧ ∀ (base : Heap) (f : Addr) (fd : FuncData), Fun K "law" "law" st f fd → FnOk l.prog w K mg base (L2N.CX l.prog w) 6 f fd ["_law_script"] (spOf K ctLaw) :=
  ⟨s_law, d_law, fun base f fd F => ok_law { d_common_part := d_common_part, d_share := d_share, d_plus := d_plus, d_whole_points := d_whole_points, d_goes_left := d_goes_left, d_chain := d_chain, d_hull_of_whole := d_hull_of_whole, d_turn_of := d_turn_of, d_along := d_along, d_steps_between := d_steps_between, d_ahead_of := d_ahead_of, d_ahead_of_two := d_ahead_of_two, d_ahead_of_all := d_ahead_of_all, d_parts_of_two := d_parts_of_two, d_parts_of := d_parts_of, d_line_by := d_line_by, d_common_by := d_common_by, d_parting := d_parting, d__law_cell_at := d__law_cell_at, d__law_stream := d__law_stream, d__law_whole := d__law_whole, d__law_part := d__law_part, d__law_share := d__law_share, d__law_is_share := d__law_is_share, d__law_drawn_two := d__law_drawn_two, d__law_is_line := d__law_is_line, d__law_mean := d__law_mean, d__law_kind := d__law_kind, d_law := d_law, C_SeatError := C_SeatError, e_SeatError := ⟨PySem.W.mg_of X G a_SeatError, x_SeatError, k_SeatError, b_SeatError, t_SeatError, h_SeatError⟩, C_NoShare := C_NoShare, e_NoShare := ⟨PySem.W.mg_of X G a_NoShare, x_NoShare, k_NoShare, b_NoShare, t_NoShare, h_NoShare⟩, m_abs := PySem.W.mg_none_of X G m_abs, m_bool := PySem.W.mg_none_of X G m_bool, m_divmod := PySem.W.mg_none_of X G m_divmod, m_enumerate := PySem.W.mg_none_of X G m_enumerate, m_int := PySem.W.mg_none_of X G m_int, m_isinstance := PySem.W.mg_none_of X G m_isinstance, m_len := PySem.W.mg_none_of X G m_len, m_list := PySem.W.mg_none_of X G m_list, m_max := PySem.W.mg_none_of X G m_max, m_min := PySem.W.mg_none_of X G m_min, m_range := PySem.W.mg_none_of X G m_range, m_set := PySem.W.mg_none_of X G m_set, m_sorted := PySem.W.mg_none_of X G m_sorted, m_sum := PySem.W.mg_none_of X G m_sum, m_tuple := PySem.W.mg_none_of X G m_tuple, m_zip := PySem.W.mg_none_of X G m_zip, c_NOUGHT := c_NOUGHT, g_NOUGHT := PySem.W.mg_of X G g_NOUGHT, r_NOUGHT := kTup2 l_NOUGHT y_NOUGHT s_NOUGHT } F⟩
end Lw
open PySem PySem.W PyProof.Rows
set_option maxHeartbeats 0 in
theorem PySem.Challenge.cw_curveseat_k50_a_line_or_a_common_point_holds : PySem.Challenge.rw_curveseat_k50_a_line_or_a_common_point.Holds := by
  w_on; o_law; k_head; (case hw => w_witness2)
  k_fill
  refine C7.walk_c7 (l := PySem.Challenge.rw_curveseat_k50_a_line_or_a_common_point) (k := 6) (x := "_law_script") rfl rfl rfl ⟨rfl, by decide, by decide⟩ (fun w h Y => PySem.W.kIn_of Y) ?F
  case F =>
    intro w mg h KX G
    refine' Lw.fin KX G ?d_common_part ?d_share ?d_plus ?d_whole_points ?d_goes_left ?d_chain ?d_hull_of_whole ?d_turn_of ?d_along ?d_steps_between ?d_ahead_of ?d_ahead_of_two ?d_ahead_of_all ?d_parts_of_two ?d_parts_of ?d_line_by ?d_common_by ?d_parting ?d__law_cell_at ?d__law_stream ?d__law_whole ?d__law_part ?d__law_share ?d__law_is_share ?d__law_drawn_two ?d__law_is_line ?d__law_mean ?d__law_kind ?d_law ?a_SeatError ?x_SeatError ?k_SeatError ?b_SeatError ?t_SeatError ?h_SeatError ?a_NoShare ?x_NoShare ?k_NoShare ?b_NoShare ?t_NoShare ?h_NoShare ?m_abs ?m_bool ?m_divmod ?m_enumerate ?m_int ?m_isinstance ?m_len ?m_list ?m_max ?m_min ?m_range ?m_set ?m_sorted ?m_sum ?m_tuple ?m_zip ?g_NOUGHT ?l_NOUGHT ?y_NOUGHT ?s_NOUGHT 
    case d_common_part => (refine' C7.def_mk KX G ?a ?l ?c ?k (fun _ _ _ _ _ _ us hl => match us, hl with | [_, _], _ => rfl); (case a => k_is); (case l => k_is); (case c => k_is); (case k => k_is))
    case d_share => (refine' C7.def_mk KX G ?a ?l ?c ?k (fun _ _ _ _ _ _ us hl => match us, hl with | [_, _], _ => rfl); (case a => k_is); (case l => k_is); (case c => k_is); (case k => k_is))
    case d_plus => (refine' C7.def_mk KX G ?a ?l ?c ?k (fun _ _ _ _ _ _ us hl => match us, hl with | [_, _], _ => rfl); (case a => k_is); (case l => k_is); (case c => k_is); (case k => k_is))
    case d_whole_points => (refine' C7.def_mk KX G ?a ?l ?c ?k (fun _ _ _ _ _ _ us hl => match us, hl with | [_], _ => rfl); (case a => k_is); (case l => k_is); (case c => k_is); (case k => k_is))
    case d_goes_left => (refine' C7.def_mk KX G ?a ?l ?c ?k (fun _ _ _ _ _ _ us hl => match us, hl with | [_, _, _], _ => rfl); (case a => k_is); (case l => k_is); (case c => k_is); (case k => k_is))
    case d_chain => (refine' C7.def_mk KX G ?a ?l ?c ?k (fun _ _ _ _ _ _ us hl => match us, hl with | [_], _ => rfl); (case a => k_is); (case l => k_is); (case c => k_is); (case k => k_is))
    case d_hull_of_whole => (refine' C7.def_mk KX G ?a ?l ?c ?k (fun _ _ _ _ _ _ us hl => match us, hl with | [_], _ => rfl); (case a => k_is); (case l => k_is); (case c => k_is); (case k => k_is))
    case d_turn_of => (refine' C7.def_mk KX G ?a ?l ?c ?k (fun _ _ _ _ _ _ us hl => match us, hl with | [_, _], _ => rfl); (case a => k_is); (case l => k_is); (case c => k_is); (case k => k_is))
    case d_along => (refine' C7.def_mk KX G ?a ?l ?c ?k (fun _ _ _ _ _ _ us hl => match us, hl with | [_, _], _ => rfl); (case a => k_is); (case l => k_is); (case c => k_is); (case k => k_is))
    case d_steps_between => (refine' C7.def_mk KX G ?a ?l ?c ?k (fun _ _ _ _ _ _ us hl => match us, hl with | [_, _], _ => rfl); (case a => k_is); (case l => k_is); (case c => k_is); (case k => k_is))
    case d_ahead_of => (refine' C7.def_mk KX G ?a ?l ?c ?k (fun _ _ _ _ _ _ us hl => match us, hl with | [_], _ => rfl); (case a => k_is); (case l => k_is); (case c => k_is); (case k => k_is))
    case d_ahead_of_two => (refine' C7.def_mk KX G ?a ?l ?c ?k (fun _ _ _ _ _ _ us hl => match us, hl with | [_, _], _ => rfl); (case a => k_is); (case l => k_is); (case c => k_is); (case k => k_is))
    case d_ahead_of_all => (refine' C7.def_mk KX G ?a ?l ?c ?k (fun _ _ _ _ _ _ us hl => match us, hl with | [_], _ => rfl); (case a => k_is); (case l => k_is); (case c => k_is); (case k => k_is))
    case d_parts_of_two => (refine' C7.def_mk KX G ?a ?l ?c ?k (fun _ _ _ _ _ _ us hl => match us, hl with | [_, _], _ => rfl); (case a => k_is); (case l => k_is); (case c => k_is); (case k => k_is))
    case d_parts_of => (refine' C7.def_mk KX G ?a ?l ?c ?k (fun _ _ _ _ _ _ us hl => match us, hl with | [_], _ => rfl); (case a => k_is); (case l => k_is); (case c => k_is); (case k => k_is))
    case d_line_by => (refine' C7.def_mk KX G ?a ?l ?c ?k (fun _ _ _ _ _ _ us hl => match us, hl with | [_, _, _, _], _ => rfl); (case a => k_is); (case l => k_is); (case c => k_is); (case k => k_is))
    case d_common_by => (refine' C7.def_mk KX G ?a ?l ?c ?k (fun _ _ _ _ _ _ us hl => match us, hl with | [_, _, _, _], _ => rfl); (case a => k_is); (case l => k_is); (case c => k_is); (case k => k_is))
    case d_parting => (refine' C7.def_mk KX G ?a ?l ?c ?k (fun _ _ _ _ _ _ us hl => match us, hl with | [_, _], _ => rfl); (case a => k_is); (case l => k_is); (case c => k_is); (case k => k_is))
    case d__law_cell_at => (refine' C7.def_mk KX G ?a ?l ?c ?k (fun _ _ _ _ _ _ us hl => match us, hl with | [_, _], _ => rfl); (case a => k_is); (case l => k_is); (case c => k_is); (case k => k_is))
    case d__law_stream => (refine' C7.def_mk KX G ?a ?l ?c ?k (fun _ _ _ _ _ _ us hl => match us, hl with | [_, _], _ => rfl); (case a => k_is); (case l => k_is); (case c => k_is); (case k => k_is))
    case d__law_whole => (refine' C7.def_mk KX G ?a ?l ?c ?k (fun _ _ _ _ _ _ us hl => match us, hl with | [_], _ => rfl); (case a => k_is); (case l => k_is); (case c => k_is); (case k => k_is))
    case d__law_part => (refine' C7.def_mk KX G ?a ?l ?c ?k (fun _ _ _ _ _ _ us hl => match us, hl with | [_, _], _ => rfl); (case a => k_is); (case l => k_is); (case c => k_is); (case k => k_is))
    case d__law_share => (refine' C7.def_mk KX G ?a ?l ?c ?k (fun _ _ _ _ _ _ us hl => match us, hl with | [_, _], _ => rfl); (case a => k_is); (case l => k_is); (case c => k_is); (case k => k_is))
    case d__law_is_share => (refine' C7.def_mk KX G ?a ?l ?c ?k (fun _ _ _ _ _ _ us hl => match us, hl with | [_], _ => rfl); (case a => k_is); (case l => k_is); (case c => k_is); (case k => k_is))
    case d__law_drawn_two => (refine' C7.def_mk KX G ?a ?l ?c ?k (fun _ _ _ _ _ _ us hl => match us, hl with | [_, _], _ => rfl); (case a => k_is); (case l => k_is); (case c => k_is); (case k => k_is))
    case d__law_is_line => (refine' C7.def_mk KX G ?a ?l ?c ?k (fun _ _ _ _ _ _ us hl => match us, hl with | [_, _, _], _ => rfl); (case a => k_is); (case l => k_is); (case c => k_is); (case k => k_is))
    case d__law_mean => (refine' C7.def_mk KX G ?a ?l ?c ?k (fun _ _ _ _ _ _ us hl => match us, hl with | [_, _], _ => rfl); (case a => k_is); (case l => k_is); (case c => k_is); (case k => k_is))
    case d__law_kind => (refine' C7.def_mk KX G ?a ?l ?c ?k (fun _ _ _ _ _ _ us hl => match us, hl with | [_, _, _], _ => rfl); (case a => k_is); (case l => k_is); (case c => k_is); (case k => k_is))
    case d_law => (refine' C7.law_mk KX G ?a ?l ?c ?k (fun _ _ _ _ _ _ v => rfl); (case a => k_is); (case l => k_is); (case c => k_is); (case k => k_is))
    case a_SeatError => k_is
    case x_SeatError => k_exc
    case k_SeatError => k_is
    case b_SeatError => k_is
    case t_SeatError => k_is
    case h_SeatError => k_is
    case a_NoShare => k_is
    case x_NoShare => k_exc
    case k_NoShare => k_is
    case b_NoShare => k_is
    case t_NoShare => k_is
    case h_NoShare => k_is
    case m_abs => k_is
    case m_bool => k_is
    case m_divmod => k_is
    case m_enumerate => k_is
    case m_int => k_is
    case m_isinstance => k_is
    case m_len => k_is
    case m_list => k_is
    case m_max => k_is
    case m_min => k_is
    case m_range => k_is
    case m_set => k_is
    case m_sorted => k_is
    case m_sum => k_is
    case m_tuple => k_is
    case m_zip => k_is
    case g_NOUGHT => k_is
    case l_NOUGHT => k_is
    case y_NOUGHT => rfl
    case s_NOUGHT => rfl
