import PyProof.Rows.All
import Wide.All
import OpenK.AllK
import Wide.FinOn
import HandS.ForMost
import HandS.ForExc
import HandS.Wide
import HandS.WideBits
import HandS.IsInst
import HandS.ExcIs
import HandS.Flow
import HandS.Style
import KE.KDictKeyed
import HandS.More
import HandS.ExcCtx
import HandS.HotCalls
import HandS.RevTup
import HandS.Rev
import HandS.TupSets
import KE.SortData
import KE.DataMinMax
import KE.KIsAll
import KE.KExcIs
import HandS.Text
import KE.GoesRaise
import KE.GoesMore
import KE.GoesEnum
import HandS.DictComp
import HandS.RaiseOp
import PySem.Challenge.RW_curveseat_k82_rows_answered
set_option Elab.async false
set_option linter.all false
set_option maxRecDepth 100000
set_option maxHeartbeats 4000000
namespace C7
open PySem PySem.Spec PyProof.Rows L2

/-! ### data: tuples by value, other objects by address -/
inductive D where
  | non | bl (b : Bool) | int (i : Int) | str (x : Str) | ref (a : Addr) | ty (n : String) | tup (ds : List D) | cl (ds : List D) | fz (ds : List D)

abbrev Frag := PySem.W.Frag

/-- tuples and locked things stay -/
structure TS (H H' : Hp) : Prop where
  t : ∀ b xs, H b = some (.tup xs) → H' b = some (.tup xs)
  z : ∀ b o u, H b = some (.frz o u) → (∀ ks, u ≠ HO.dK ks) → H' b = some (.frz o u)
theorem TS.refl (H : Hp) : TS H H := ⟨fun _ _ h => h, fun _ _ _ h _ => h⟩
theorem TS.trans {H H1 H2 : Hp} (a : TS H H1) (b : TS H1 H2) : TS H H2 := ⟨fun x y h => b.t x y (a.t x y h), fun x y z h n => b.z x y z (a.z x y z h n) n⟩
theorem TS.new {H : Hp} {p : Addr} {o : HO} (h : H p = none) : TS H (upd H p o) :=
  ⟨fun a u e => by rw [upd_ne (ne_of_none e h)]; exact e, fun a x u e _ => by rw [upd_ne (ne_of_none e h)]; exact e⟩
theorem TS.put {H : Hp} {p : Addr} {o u0 : HO} (h : H p = some u0) (h1 : ∀ xs, u0 ≠ .tup xs) (h2 : ∀ x u, u0 ≠ .frz x u) : TS H (upd H p o) :=
  ⟨fun a u e => by
    have ne : a ≠ p := fun z => by subst z; rw [h] at e; exact h1 u (Option.some.inj e)
    rw [upd_ne ne]; exact e, fun a x u e _ => by
    have ne : a ≠ p := fun z => by subst z; rw [h] at e; exact h2 x u (Option.some.inj e)
    rw [upd_ne ne]; exact e⟩
theorem TS.sq {K : Frag} {H H' : Hp} {a : Addr} {xs : List V} (t : TS H H') (h : SqT K H a xs) : SqT K H' a xs := by
  rcases h with (h | ⟨o, h⟩) | h
  · exact .inl (.inl (t.t _ _ h))
  · exact .inl (.inr ⟨o, t.z _ _ _ h fun _ z => nomatch z⟩)
  · exact .inr h

/-- a list that nobody changes: the script -/
def SqC (K : Frag) (H : Hp) (a : Addr) (xs : List V) : Prop := (∃ o, H a = some (.frz o (.lst xs))) ∨
    ∃ (o : Obj) (its : Array Value) (n : Nat), K.lookup a = some o ∧ o.cls = .type "list" ∧ o.dict = none ∧ o.data = .seq its n ∧ its.size ≤ sizeLine ∧ Vals xs its.toList
theorem SqC.sq {K : Frag} {H : Hp} {a : Addr} {xs : List V} (h : SqC K H a xs) : SqL K H a xs := h.elim (fun h => .inl (.inr h)) .inr
theorem TS.sqc {K : Frag} {H H' : Hp} {a : Addr} {xs : List V} (t : TS H H') (h : SqC K H a xs) : SqC K H' a xs := h.elim (fun ⟨o, h⟩ => .inl ⟨o, t.z _ _ _ h fun _ z => nomatch z⟩) .inr
mutual
inductive Rp (K : Frag) (H : Hp) : V → D → Prop
  | non : Rp K H .non .non
  | bl (b : Bool) : Rp K H (.bl b) (.bl b)
  | int (i : Int) : Rp K H (.int i) (.int i)
  | str (x : Str) : Rp K H (.str x) (.str x)
  | ref (a : Addr) : Rp K H (.ref a) (.ref a)
  | ty (n : String) : Rp K H (.ty n) (.ty n)
  | tup {a : Addr} {vs : List V} {ds : List D} : SqT K H a vs → Rps K H vs ds → Rp K H (.ref a) (.tup ds)
  | cl {a : Addr} {vs : List V} {ds : List D} : SqC K H a vs → Rps K H vs ds → Rp K H (.ref a) (.cl ds)
  | fz {a : Addr} {o : Obj} {vs : List V} {ds : List D} : H a = some (.frz o (.lst vs)) → Rps K H vs ds → Rp K H (.ref a) (.fz ds)
inductive Rps (K : Frag) (H : Hp) : List V → List D → Prop
  | nil : Rps K H [] []
  | cons {v : V} {vs : List V} {d : D} {ds : List D} : Rp K H v d → Rps K H vs ds → Rps K H (v :: vs) (d :: ds)
end
mutual
theorem Rp.mono {K : Frag} {H H' : Hp} (t : TS H H') : ∀ {v : V} {d : D}, Rp K H v d → Rp K H' v d
  | _, _, .non => .non
  | _, _, .bl b => .bl b
  | _, _, .int i => .int i
  | _, _, .str x => .str x
  | _, _, .ref a => .ref a
  | _, _, .ty n => .ty n
  | _, _, .tup h hs => .tup (t.sq h) (Rps.mono t hs)
  | _, _, .cl h hs => .cl (t.sqc h) (Rps.mono t hs)
  | _, _, .fz h hs => .fz (t.z _ _ _ h fun _ z => nomatch z) (Rps.mono t hs)
theorem Rps.mono {K : Frag} {H H' : Hp} (t : TS H H') : ∀ {vs : List V} {ds : List D}, Rps K H vs ds → Rps K H' vs ds
  | _, _, .nil => .nil
  | _, _, .cons h hs => .cons (Rp.mono t h) (Rps.mono t hs)
end
section
variable {K : Frag} {H H' : Hp}
theorem Rp.int_of {v : V} {i : Int} (h : Rp K H v (.int i)) : v = .int i := by cases h; rfl
theorem Rp.bl_of {v : V} {b : Bool} (h : Rp K H v (.bl b)) : v = .bl b := by cases h; rfl
theorem Rp.str_of {v : V} {x : Str} (h : Rp K H v (.str x)) : v = .str x := by cases h; rfl
theorem Rp.non_of {v : V} (h : Rp K H v .non) : v = .non := by cases h; rfl
theorem Rp.ty_of {v : V} {n : String} (h : Rp K H v (.ty n)) : v = .ty n := by cases h; rfl
theorem Rp.ref_of {v : V} {a : Addr} (h : Rp K H v (.ref a)) : v = .ref a := by cases h; rfl
theorem Rp.tup_of {v : V} {ds : List D} (h : Rp K H v (.tup ds)) : ∃ a vs, v = .ref a ∧ SqT K H a vs ∧ Rps K H vs ds := by cases h with | tup a b => exact ⟨_, _, rfl, a, b⟩
theorem Rp.cl_of {v : V} {ds : List D} (h : Rp K H v (.cl ds)) : ∃ a vs, v = .ref a ∧ SqC K H a vs ∧ Rps K H vs ds := by cases h with | cl a b => exact ⟨_, _, rfl, a, b⟩
theorem Rp.fz_of {v : V} {ds : List D} (h : Rp K H v (.fz ds)) : ∃ a o vs, v = .ref a ∧ H a = some (.frz o (.lst vs)) ∧ Rps K H vs ds := by cases h with | fz a b => exact ⟨_, _, _, rfl, a, b⟩
theorem Rps.length : ∀ {vs : List V} {ds : List D}, Rps K H vs ds → vs.length = ds.length
  | _, _, .nil => rfl
  | _, _, .cons _ t => by rw [List.length_cons, List.length_cons, Rps.length t]
theorem Rps.get : ∀ {vs : List V} {ds : List D} {i : Nat} {d : D}, Rps K H vs ds → ds[i]? = some d → ∃ v, vs[i]? = some v ∧ Rp K H v d
  | _, _, _, _, .nil, e => by simp at e
  | _, _, 0, _, .cons r _, e => by simp at e; subst e; exact ⟨_, rfl, r⟩
  | _, _, i + 1, d, .cons _ t, e => by
    obtain ⟨u, h1, h2⟩ := Rps.get (i := i) (d := d) t (by simpa using e)
    exact ⟨u, by simpa using h1, h2⟩
theorem Rps.getV : ∀ {vs : List V} {ds : List D} {i : Nat} {v : V}, Rps K H vs ds → vs[i]? = some v → ∃ d, ds[i]? = some d ∧ Rp K H v d
  | _, _, _, _, .nil, e => by simp at e
  | _, _, 0, _, .cons r _, e => by simp at e; subst e; exact ⟨_, rfl, r⟩
  | _, _, i + 1, d, .cons _ t, e => by
    obtain ⟨u, h1, h2⟩ := Rps.getV (i := i) (v := d) t (by simpa using e)
    exact ⟨u, by simpa using h1, h2⟩
theorem Rps.append : ∀ {xs ys : List V} {us ws : List D}, Rps K H xs us → Rps K H ys ws → Rps K H (xs ++ ys) (us ++ ws)
  | _, _, _, _, .nil, s => s
  | _, _, _, _, .cons r t, s => .cons r (Rps.append t s)
theorem Rps.one {v : V} {d : D} (h : Rp K H v d) : Rps K H [v] [d] := .cons h .nil
theorem Rps.set {x : V} {u : D} (r : Rp K H x u) : ∀ {xs : List V} {us : List D} (i : Nat), Rps K H xs us → Rps K H (xs.set i x) (us.set i u)
  | _, _, _, .nil => .nil
  | _, _, 0, .cons _ t => .cons r t
  | _, _, i + 1, .cons q t => .cons q (Rps.set r i t)
theorem Rps.take : ∀ {xs : List V} {us : List D} (n : Nat), Rps K H xs us → Rps K H (xs.take n) (us.take n)
  | _, _, 0, _ => .nil
  | _, _, _ + 1, .nil => .nil
  | _, _, n + 1, .cons r t => .cons r (Rps.take n t)
theorem Rps.drop : ∀ {xs : List V} {us : List D} (n : Nat), Rps K H xs us → Rps K H (xs.drop n) (us.drop n)
  | _, _, 0, r => r
  | _, _, _ + 1, .nil => .nil
  | _, _, n + 1, .cons _ t => Rps.drop n t
theorem Rps.reverse : ∀ {xs : List V} {us : List D}, Rps K H xs us → Rps K H xs.reverse us.reverse
  | _, _, .nil => .nil
  | _, _, .cons r t => by rw [List.reverse_cons, List.reverse_cons]; exact (Rps.reverse t).append (.one r)
theorem Rps.dropLast {xs : List V} {us : List D} (h : Rps K H xs us) : Rps K H xs.dropLast us.dropLast := by
  rw [List.dropLast_eq_take, List.dropLast_eq_take, h.length]; exact h.take _
theorem Rps.ints : ∀ {vs : List V} {ns : List Int}, Rps K H vs (ns.map D.int) → vs = ns.map V.int
  | _, [], h => by cases h; rfl
  | _, n :: ns, h => by
    cases h with
    | cons a b => rw [a.int_of, Rps.ints b]; rfl
theorem Rps.bls : ∀ {vs : List V} {ns : List Bool}, Rps K H vs (ns.map D.bl) → vs = ns.map V.bl
  | _, [], h => by cases h; rfl
  | _, n :: ns, h => by
    cases h with
    | cons a b => rw [a.bl_of, Rps.bls b]; rfl
theorem Rps.strs : ∀ {vs : List V} {ns : List Str}, Rps K H vs (ns.map D.str) → vs = ns.map V.str
  | _, [], h => by cases h; rfl
  | _, n :: ns, h => by
    cases h with
    | cons a b => rw [a.str_of, Rps.strs b]; rfl
theorem Rps.atI {vs : List V} {ds : List D} {i : Int} {d : D} (h : Rps K H vs ds) (e : atI ds i = some d) : ∃ v, L2.atI vs i = some v ∧ Rp K H v d := by
  unfold L2.atI at e ⊢
  rw [h.length]
  cases q : ixN ds.length i with
  | none => rw [q] at e; cases e
  | some j =>
    rw [q] at e
    exact h.get e
end

/-! ### the abstract heap: lists, instances, dicts, by what they hold -/
/-- a dict whose keys are tuples, by its entries: the key, where it stands, the value -/
def DkO (P : Program) (w : World) (a : Addr) (xs : List (NestedKey × Addr × Value)) : HO := .ext fun h => (a == sysModules) = false ∧ ∃ o es ep, h.get? a = some o ∧ o.ExactDict ∧ o.data = .dict es ep ∧ es.toList = xs.map (entryOfKey (nestedKind P w)) ∧ (xs.map (·.1)).Nodup
mutual
def keyD : D → Option NestedKey
  | .int i => some (.num i)
  | .str x => some (.text x)
  | .tup ds => match keysD ds with
    | some ks => some (.tup ks)
    | none => none
  | _ => none
def keysD : List D → Option (List NestedKey)
  | [] => some []
  | d :: ds => match keyD d, keysD ds with
    | some k, some ks => some (k :: ks)
    | _, _ => none
end
inductive AO where
  | lst (ds : List D)
  | ins (C dx : Addr) (fs : List (Str × D))
  | dK (kvs : List (Key × D))
  | dD (P : Program) (w : World) (a : Addr) (kvs : List (NestedKey × D))
  | raw (u : HO)
  | dZ (o : Obj) (gs : List (Key × V)) (kvs : List (Key × D))
/-- an entry of such a dict -/
def EnD (K : Frag) (H : Hp) (x : NestedKey × Addr × Value) (q : NestedKey × D) : Prop := (∃ kd, Rp K H (.ref x.2.1) kd ∧ keyD kd = some x.1 ∧ x.1.depth ≤ 8) ∧ x.1 = q.1 ∧ ∃ v, RelV v x.2.2 ∧ Rp K H v q.2
def RelA (K : Frag) (H : Hp) : AO → HO → Prop
  | .lst ds, u => ∃ vs, u = .lst vs ∧ Rps K H vs ds
  | .ins C dx fs, u => ∃ gs, u = .ins C dx gs ∧ Paired (fun (p : Str × V) (q : Str × D) => p.1 = q.1 ∧ Rp K H p.2 q.2) gs fs
  | .dK kvs, u => ∃ gs, u = .dK gs ∧ Paired (fun (p : Key × V) (q : Key × D) => p.1 = q.1 ∧ Rp K H p.2 q.2) gs kvs
  | .dD P w a kvs, u => ∃ xs, u = DkO P w a xs ∧ Paired (EnD K H) xs kvs
  | .raw w, u => u = w
  | .dZ o gs kvs, u => u = .frz o (.dK gs) ∧ Paired (fun (p : Key × V) (q : Key × D) => p.1 = q.1 ∧ Rp K H p.2 q.2) gs kvs
theorem RelA.mono {K : Frag} {H H' : Hp} (t : TS H H') : ∀ {o : AO} {u : HO}, RelA K H o u → RelA K H' o u
  | .lst _, _, ⟨vs, e, h⟩ => ⟨vs, e, h.mono t⟩
  | .ins _ _ _, _, ⟨gs, e, h⟩ => ⟨gs, e, Paired.mapP h fun _ _ z => ⟨z.1, z.2.mono t⟩⟩
  | .dK _, _, ⟨gs, e, h⟩ => ⟨gs, e, Paired.mapP h fun _ _ z => ⟨z.1, z.2.mono t⟩⟩
  | .dD _ _ _ _, _, ⟨gs, e, h⟩ => ⟨gs, e, Paired.mapP h fun _ _ ⟨⟨kd, z1, z2⟩, z3, v, z4, z5⟩ => ⟨⟨kd, z1.mono t, z2⟩, z3, v, z4, z5.mono t⟩⟩
  | .raw _, _, e => e
  | .dZ _ _ _, _, ⟨e, h⟩ => ⟨e, Paired.mapP h fun _ _ z => ⟨z.1, z.2.mono t⟩⟩
abbrev AH := Addr → Option AO
def aupd (A : AH) (a : Addr) (o : AO) : AH := fun b => if b = a then some o else A b
theorem aupd_same {A : AH} {a : Addr} {o : AO} : aupd A a o a = some o := by unfold aupd; rw [if_pos rfl]
theorem aupd_ne {A : AH} {a b : Addr} {o : AO} (h : b ≠ a) : aupd A a o b = A b := by unfold aupd; rw [if_neg h]
theorem aupd_aupd {A : AH} {a : Addr} {o u : AO} : aupd (aupd A a o) a u = aupd A a u := by funext b; unfold aupd; split <;> rfl
theorem ane {A : AH} {a b : Addr} {o : AO} (h : A a = some o) (h' : A b = none) : a ≠ b := by intro e; subst e; rw [h] at h'; cases h'
/-- what stood stands -/
def Ext (A A' : AH) : Prop := ∀ a o, A a = some o → A' a = some o
theorem Ext.refl (A : AH) : Ext A A := fun _ _ h => h
theorem Ext.trans {A A1 A2 : AH} (a : Ext A A1) (b : Ext A1 A2) : Ext A A2 := fun x o h => b x o (a x o h)
theorem Ext.new {A : AH} {p : Addr} {o : AO} (h : A p = none) : Ext A (aupd A p o) := fun a u e => by rw [aupd_ne (ane e h)]; exact e
theorem Ext.put {A A' : AH} {p : Addr} {o : AO} (e : Ext A A') (h : A p = none) : Ext A (aupd A' p o) := fun a u q => by rw [aupd_ne (ane q h)]; exact e a u q
theorem Ext.upd {A A' : AH} (e : Ext A A') (p : Addr) (o : AO) : Ext (aupd A p o) (aupd A' p o) := fun a u q => by
  unfold aupd at q ⊢
  split
  · rename_i h; rw [if_pos h] at q; exact q
  · rename_i h; rw [if_neg h] at q; exact e a u q
theorem Ext.none {A A' : AH} {p : Addr} (e : Ext A A') (h : A' p = none) : A p = none := by
  cases q : A p with
  | none => rfl
  | some o => rw [e p o q] at h; cases h

def Rel (K : Frag) (A : AH) (H : Hp) : Prop := ∀ a o, A a = some o → ∃ u, H a = some u ∧ RelA K H o u
section
variable {K : Frag} {A A' : AH} {H H' : Hp}
theorem Rel.none (r : Rel K A H) {p : Addr} (h : H p = Option.none) : A p = Option.none := by
  cases q : A p with
  | none => rfl
  | some o => obtain ⟨u, e, _⟩ := r p o q; rw [h] at e; cases e
theorem Rel.sub (r : Rel K A' H) (e : Ext A A') : Rel K A H := fun a o h => r a o (e a o h)
theorem Rel.new (r : Rel K A H) {p : Addr} {o : AO} {u : HO} (h : H p = Option.none) (ra : RelA K (upd H p u) o u) : Rel K (aupd A p o) (upd H p u) := fun a o' q => by
  by_cases e : a = p
  · subst e
    rw [aupd_same] at q
    cases q
    exact ⟨u, upd_same, ra⟩
  · rw [aupd_ne e] at q
    obtain ⟨v, e1, e2⟩ := r a o' q
    exact ⟨v, by rw [upd_ne e]; exact e1, e2.mono (TS.new h)⟩
theorem Rel.newT (r : Rel K A H) {p : Addr} {vs : List V} (h : H p = Option.none) : Rel K A (upd H p (.tup vs)) := fun a o q => by
  obtain ⟨v, e1, e2⟩ := r a o q
  exact ⟨v, by rw [upd_ne (ne_of_none e1 h)]; exact e1, e2.mono (TS.new h)⟩
theorem Rel.newAny (r : Rel K A H) {p : Addr} {u : HO} (h : H p = Option.none) : Rel K A (upd H p u) := fun a o q => by
  obtain ⟨v, e1, e2⟩ := r a o q
  exact ⟨v, by rw [upd_ne (ne_of_none e1 h)]; exact e1, e2.mono (TS.new h)⟩
theorem Rel.put (r : Rel K A H) {p : Addr} {o : AO} {u u0 : HO} (h : H p = some u0) (h1 : ∀ xs, u0 ≠ .tup xs) (h2 : ∀ x u, u0 ≠ .frz x u) (ra : RelA K (upd H p u) o u) : Rel K (aupd A p o) (upd H p u) := fun a o' q => by
  by_cases e : a = p
  · subst e
    rw [aupd_same] at q
    cases q
    exact ⟨u, upd_same, ra⟩
  · rw [aupd_ne e] at q
    obtain ⟨v, e1, e2⟩ := r a o' q
    exact ⟨v, by rw [upd_ne e]; exact e1, e2.mono (TS.put h h1 h2)⟩
theorem Rel.lst (r : Rel K A H) {p : Addr} {ds : List D} (h : A p = some (.lst ds)) : ∃ vs, H p = some (.lst vs) ∧ Rps K H vs ds := by
  obtain ⟨u, e, vs, rfl, q⟩ := r p _ h
  exact ⟨vs, e, q⟩
theorem Rel.putL (r : Rel K A H) {p : Addr} {ds : List D} {vs vs' : List V} (h : H p = some (.lst vs)) (q : Rps K H vs' ds) : TS H (upd H p (.lst vs')) ∧ Rel K (aupd A p (.lst ds)) (upd H p (.lst vs')) := by
  have t : TS H (upd H p (.lst vs')) := TS.put h (fun _ z => nomatch z) (fun _ _ z => nomatch z)
  exact ⟨t, r.put h (fun _ z => nomatch z) (fun _ _ z => nomatch z) ⟨vs', rfl, q.mono t⟩⟩
theorem Rel.newL (r : Rel K A H) {p : Addr} {ds : List D} {vs : List V} (h : H p = Option.none) (q : Rps K H vs ds) : TS H (upd H p (.lst vs)) ∧ Rel K (aupd A p (.lst ds)) (upd H p (.lst vs)) :=
  ⟨TS.new h, r.new h ⟨vs, rfl, q.mono (TS.new h)⟩⟩
end
/-- d is a list of ds, to be read -/
def IsL (A : AH) (d : D) (ds : List D) : Prop := (∃ p, d = .ref p ∧ A p = some (.lst ds)) ∨ d = .cl ds ∨ d = .fz ds
theorem IsL.sq {K : Frag} {A : AH} {H : Hp} {d : D} {ds : List D} {v : V} (l : IsL A d ds) (rv : Rp K H v d) (r : Rel K A H) : ∃ a vs, v = .ref a ∧ SqL K H a vs ∧ Rps K H vs ds := by
  rcases l with ⟨p, rfl, l⟩ | rfl | rfl
  · obtain ⟨vs, e, q⟩ := r.lst l
    exact ⟨p, vs, rv.ref_of, .inl (.inl e), q⟩
  · obtain ⟨a, vs, rfl, h1, h2⟩ := rv.cl_of
    exact ⟨a, vs, rfl, h1.sq, h2⟩
  · obtain ⟨a, o, vs, rfl, h1, h2⟩ := rv.fz_of
    exact ⟨a, vs, rfl, .inl (.inr ⟨o, h1⟩), h2⟩
theorem IsL.ext {A A' : AH} {d : D} {ds : List D} (l : IsL A d ds) (e : Ext A A') : IsL A' d ds := l.elim (fun ⟨p, h, q⟩ => .inl ⟨p, h, e _ _ q⟩) .inr
theorem IsL.of {A : AH} {p : Addr} {ds : List D} (h : A p = some (.lst ds)) : IsL A (.ref p) ds := .inl ⟨p, rfl, h⟩
theorem IsL.cl {A : AH} {ds : List D} : IsL A (.cl ds) ds := .inr (.inl rfl)
theorem IsL.fz {A : AH} {ds : List D} : IsL A (.fz ds) ds := .inr (.inr rfl)

/-! ### the state -/
abbrev Ro := List (Option D)
structure Sr (K : Frag) (ρ : Ro) (A : AH) (σ : L2.St) (H : Hp) : Prop where
  len : ρ.length = σ.length
  val : ∀ (i : Nat) (d : D), ρ[i]? = some (some d) → ∃ v, σ[i]? = some (some v) ∧ Rp K H v d
  hp : Rel K A H
section
variable {K : Frag} {ρ : Ro} {A A' : AH} {σ : L2.St} {H H' : Hp}
theorem Sr.mono (s : Sr K ρ A σ H) (t : TS H H') (r : Rel K A' H') : Sr K ρ A' σ H' :=
  ⟨s.len, fun i d e => let ⟨v, a, b⟩ := s.val i d e; ⟨v, a, b.mono t⟩, r⟩
theorem Sr.set (s : Sr K ρ A σ H) {v : V} {d : D} (i : Nat) (r : Rp K H v d) : Sr K (ρ.set i (some d)) A (σ.set i (some v)) H := by
  refine ⟨by simp [s.len], fun j d' e => ?_, s.hp⟩
  by_cases h : j = i
  · subst h
    rw [List.getElem?_set] at e
    rw [if_pos rfl] at e
    split at e
    · rename_i hl
      cases e
      exact ⟨v, by rw [List.getElem?_set_self (by rw [← s.len]; exact hl)], r⟩
    · cases e
  · rw [List.getElem?_set_ne (Ne.symm h)] at e
    obtain ⟨w, a, b⟩ := s.val j d' e
    exact ⟨w, by rw [List.getElem?_set_ne (Ne.symm h)]; exact a, b⟩
theorem Sr.unset (s : Sr K ρ A σ H) (i : Nat) : Sr K (ρ.set i none) A (σ.set i none) H := by
  refine ⟨by simp [s.len], fun j d' e => ?_, s.hp⟩
  by_cases h : j = i
  · subst h
    rw [List.getElem?_set] at e
    rw [if_pos rfl] at e
    split at e
    · cases e
    · cases e
  · rw [List.getElem?_set_ne (Ne.symm h)] at e
    obtain ⟨w, a, b⟩ := s.val j d' e
    exact ⟨w, by rw [List.getElem?_set_ne (Ne.symm h)]; exact a, b⟩
theorem Sr.sub (s : Sr K ρ A' σ H) (e : Ext A A') : Sr K ρ A σ H := ⟨s.len, s.val, s.hp.sub e⟩
end
end C7
namespace C7
open PySem PySem.Spec PyProof.Rows L2

/-! ### the widest readings -/
section
variable {X : Cx}
structure TMp (X : Cx) (e : Expr) (σ : L2.St) (H : Hp) (Q : VK) : Prop where
  go : ∀ (pins : List (Addr × Obj)) (s : Shared), Inv X pins σ H s → wpAny (model X.prog X.w) X.A (eval e X.env) (EP X pins σ Q) X.xe s
def TM (X : Cx) (e : Expr) : TE := fun σ H Q => TMp X e σ H Q
theorem pe_tm (e : Expr) : PE X e (TM X e) := ⟨fun pins s _ _ _ I h => h.go pins s I⟩
theorem tm_of {e : Expr} {t : TE} (h : PE X e t) {σ : L2.St} {H : Hp} {Q : VK} (q : t σ H Q) : TM X e σ H Q := ⟨fun pins s I => h.run pins s σ H Q I q⟩
structure TMTp (X : Cx) (e : Expr) (σ : L2.St) (H : Hp) (Q : Bool → Hp → Prop) : Prop where
  go : ∀ (pins : List (Addr × Obj)) (s : Shared), Inv X pins σ H s → wpAny (model X.prog X.w) X.A (isTrue e X.env (eval e X.env)) (TP X pins σ Q) X.xe s
def TMT (X : Cx) (e : Expr) : TT := fun σ H Q => TMTp X e σ H Q
theorem pt_tm (e : Expr) : PT X e (TMT X e) := ⟨fun pins s _ _ _ I h => h.go pins s I⟩
theorem tmt_of {e : Expr} {t : TT} (h : PT X e t) {σ : L2.St} {H : Hp} {Q : Bool → Hp → Prop} (q : t σ H Q) : TMT X e σ H Q := ⟨fun pins s I => h.run pins s σ H Q I q⟩
structure TMWp (X : Cx) (e : Expr) (σ : L2.St) (H : Hp) (Q : Bool → Hp → Prop) : Prop where
  go : ∀ (whole : Sem Value) (pins : List (Addr × Obj)) (s : Shared), Inv X pins σ H s → wpAny (model X.prog X.w) X.A (isTrue e X.env whole) (TP X pins σ Q) X.xe s
def TMW (X : Cx) (e : Expr) : TT := fun σ H Q => TMWp X e σ H Q
theorem pw_tm (e : Expr) : PW X e (TMW X e) := ⟨fun whole pins s _ _ _ I h => h.go whole pins s I⟩
theorem tmw_of {e : Expr} {t : TT} (h : PW X e t) {σ : L2.St} {H : Hp} {Q : Bool → Hp → Prop} (q : t σ H Q) : TMW X e σ H Q := ⟨fun whole pins s I => h.run whole pins s σ H Q I q⟩
structure TMAp (X : Cx) (es : List Expr) (σ : L2.St) (H : Hp) (Q : List V → Hp → Prop) : Prop where
  go : ∀ (pos : Pos) (pins : List (Addr × Obj)) (s : Shared), Inv X pins σ H s → wpAny (model X.prog X.w) X.A (spliced (backTo pos (starEach es X.env))) (AP X pins σ Q) X.xe s
def TMA (X : Cx) (es : List Expr) : TA := fun σ H Q => TMAp X es σ H Q
theorem pa_tm (es : List Expr) : PA X es (TMA X es) := ⟨fun pos pins s _ _ _ I h => h.go pos pins s I⟩
theorem tma_of {es : List Expr} {t : TA} (h : PA X es t) {σ : L2.St} {H : Hp} {Q : List V → Hp → Prop} (q : t σ H Q) : TMA X es σ H Q := ⟨fun pos pins s I => h.run pos pins s σ H Q I q⟩
structure TM1p (X : Cx) (st : Stmt) (D : Ends) (σ : L2.St) (H : Hp) : Prop where
  go : ∀ (pins : List (Addr × Obj)) (s : Shared), Inv X pins σ H s → wpAny (model X.prog X.w) X.A (exec st X.env) (SP X pins D) X.xe s
def TM1 (X : Cx) (st : Stmt) : L2.TS := fun D σ H => TM1p X st D σ H
theorem ps_tm (st : Stmt) : PS X st (TM1 X st) := ⟨fun pins s _ _ _ I h => h.go pins s I⟩
theorem tm1_of {st : Stmt} {t : L2.TS} (h : PS X st t) {σ : L2.St} {H : Hp} {D : Ends} (q : t D σ H) : TM1 X st D σ H := ⟨fun pins s I => h.run pins s σ H D I q⟩
structure TMsp (X : Cx) (sts : List Stmt) (D : Ends) (σ : L2.St) (H : Hp) : Prop where
  go : ∀ (pins : List (Addr × Obj)) (s : Shared), Inv X pins σ H s → wpAny (model X.prog X.w) X.A (execs sts X.env) (SP X pins D) X.xe s
def TMs (X : Cx) (sts : List Stmt) : L2.TS := fun D σ H => TMsp X sts D σ H
theorem pss_tm (sts : List Stmt) : PSs X sts (TMs X sts) := ⟨fun pins s _ _ _ I h => h.go pins s I⟩
theorem tms_of {sts : List Stmt} {t : L2.TS} (h : PSs X sts t) {σ : L2.St} {H : Hp} {D : Ends} (q : t D σ H) : TMs X sts D σ H := ⟨fun pins s I => h.run pins s σ H D I q⟩
structure TMGp (X : Cx) (tg : Expr) (v : V) (σ : L2.St) (H : Hp) (Q : L2.St → Hp → Prop) : Prop where
  go : ∀ (pins : List (Addr × Obj)) (s : Shared) (u : Value), Inv X pins σ H s → RelV v u → wpAny (model X.prog X.w) X.A (assign tg X.env u) (fun _ s' => ∃ σ' H', Inv X pins σ' H' s' ∧ Q σ' H') X.xe s
def TMG (X : Cx) (tg : Expr) : TG := fun v σ H Q => TMGp X tg v σ H Q
theorem pg_tm (tg : Expr) : PG X tg (TMG X tg) := ⟨fun pins s _ _ _ u _ I r h => h.go pins s u I r⟩
theorem tmg_of {tg : Expr} {t : TG} (h : PG X tg t) {v : V} {σ : L2.St} {H : Hp} {Q : L2.St → Hp → Prop} (q : t v σ H Q) : TMG X tg v σ H Q := ⟨fun pins s u I r => h.run pins s σ H v u Q I r q⟩
structure TMGsp (X : Cx) (ts : List Expr) (vs : List V) (σ : L2.St) (H : Hp) (Q : L2.St → Hp → Prop) : Prop where
  go : ∀ (pins : List (Addr × Obj)) (s : Shared) (us : List Value), Inv X pins σ H s → Vals vs us → wpAny (model X.prog X.w) X.A (assignInOrder ((assignEach ts X.env).map (·.2)) us) (fun _ s' => ∃ σ' H', Inv X pins σ' H' s' ∧ Q σ' H') X.xe s
def TMGs (X : Cx) (ts : List Expr) : TGs := fun vs σ H Q => TMGsp X ts vs σ H Q
theorem pgs_tm (ts : List Expr) : PGs X ts (TMGs X ts) := ⟨fun pins s _ _ _ us _ I r h => h.go pins s us I r⟩
theorem tmgs_of {ts : List Expr} {t : TGs} (h : PGs X ts t) {vs : List V} {σ : L2.St} {H : Hp} {Q : L2.St → Hp → Prop} (q : t vs σ H Q) : TMGs X ts vs σ H Q := ⟨fun pins s us I r => h.run pins s σ H vs us Q I r q⟩
structure TMIp (X : Cx) (tg iter : Expr) (σ : L2.St) (H : Hp) (R : It → Hp → Prop) : Prop where
  go : ∀ (pins : List (Addr × Obj)) (s : Shared), Inv X pins σ H s → wpAny (model X.prog X.w) X.A (eval iter X.env) (fun v s1 => wpAny (model X.prog X.w) X.A (pyIter v) (PIE X pins σ tg R) X.xe s1) X.xe s
def TMI (X : Cx) (tg iter : Expr) : TI := fun σ H R => TMIp X tg iter σ H R
theorem pi_tm (tg iter : Expr) : PI X tg iter (TMI X tg iter) := ⟨fun pins s _ _ _ I h => h.go pins s I⟩
theorem tmi_of {tg iter : Expr} {t : TI} (h : PI X tg iter t) {σ : L2.St} {H : Hp} {R : It → Hp → Prop} (q : t σ H R) : TMI X tg iter σ H R := ⟨fun pins s I => h.run pins s σ H R I q⟩
def TMO (X : Cx) (e : Option Expr) (t : TO) : Prop := PO X e t
end

/-! ### the judgements -/
abbrev AK := D → AH → Prop
/-- e gives some d, leaving some A', of which k holds -/
def AE (X : Cx) (e : Expr) (ρ : Ro) (A : AH) (k : AK) : Prop := ∀ (σ : L2.St) (H : Hp), Sr X.K ρ A σ H → ∀ Q : VK, (∀ v H' d A', TS H H' → Rp X.K H' v d → Rel X.K A' H' → k d A' → Q v H') → TM X e σ H Q
/-- e gives d, and nothing that is known changes -/
def AV (X : Cx) (e : Expr) (ρ : Ro) (A : AH) (d : D) : Prop := ∀ (σ : L2.St) (H : Hp), Sr X.K ρ A σ H → ∀ Q : VK, (∀ v H', TS H H' → Rp X.K H' v d → Rel X.K A H' → Q v H') → TM X e σ H Q
def AEs (X : Cx) (es : List Expr) (ρ : Ro) (A : AH) (k : List D → AH → Prop) : Prop := ∀ (σ : L2.St) (H : Hp), Sr X.K ρ A σ H → ∀ Q : List V → Hp → Prop, (∀ vs H' ds A', TS H H' → Rps X.K H' vs ds → Rel X.K A' H' → k ds A' → Q vs H') → TMA X es σ H Q
def AVs (X : Cx) (es : List Expr) (ρ : Ro) (A : AH) (ds : List D) : Prop := ∀ (σ : L2.St) (H : Hp), Sr X.K ρ A σ H → ∀ Q : List V → Hp → Prop, (∀ vs H', TS H H' → Rps X.K H' vs ds → Rel X.K A H' → Q vs H') → TMA X es σ H Q
/-- a test -/
def AET (X : Cx) (e : Expr) (ρ : Ro) (A : AH) (k : Bool → AH → Prop) : Prop := ∀ (σ : L2.St) (H : Hp), Sr X.K ρ A σ H → ∀ Q : Bool → Hp → Prop, (∀ b H' A', TS H H' → Rel X.K A' H' → k b A' → Q b H') → TMT X e σ H Q
def AT (X : Cx) (e : Expr) (ρ : Ro) (A : AH) (b : Bool) : Prop := ∀ (σ : L2.St) (H : Hp), Sr X.K ρ A σ H → ∀ Q : Bool → Hp → Prop, (∀ H', TS H H' → Rel X.K A H' → Q b H') → TMT X e σ H Q
def AEW (X : Cx) (e : Expr) (ρ : Ro) (A : AH) (k : Bool → AH → Prop) : Prop := ∀ (σ : L2.St) (H : Hp), Sr X.K ρ A σ H → ∀ Q : Bool → Hp → Prop, (∀ b H' A', TS H H' → Rel X.K A' H' → k b A' → Q b H') → TMW X e σ H Q
def AW (X : Cx) (e : Expr) (ρ : Ro) (A : AH) (b : Bool) : Prop := ∀ (σ : L2.St) (H : Hp), Sr X.K ρ A σ H → ∀ Q : Bool → Hp → Prop, (∀ H', TS H H' → Rel X.K A H' → Q b H') → TMW X e σ H Q
/-- a target: the slots is may change -/
def AG (X : Cx) (tg : Expr) (is : List Nat) (ρ : Ro) (d : D) (ρ' : Ro) : Prop := ∀ (v : V) (σ : L2.St) (H : Hp) (A : AH), Sr X.K ρ A σ H → Rp X.K H v d → ∀ Q : L2.St → Hp → Prop,
  (∀ σ', σ'.length = σ.length → (∀ j : Nat, j ∉ is → σ'[j]? = σ[j]?) → Sr X.K ρ' A σ' H → Q σ' H) → TMG X tg v σ H Q
def AGs (X : Cx) (ts : List Expr) (is : List Nat) (ρ : Ro) (ds : List D) (ρ' : Ro) : Prop := ∀ (vs : List V) (σ : L2.St) (H : Hp) (A : AH), Sr X.K ρ A σ H → Rps X.K H vs ds → ∀ Q : L2.St → Hp → Prop,
  (∀ σ', σ'.length = σ.length → (∀ j : Nat, j ∉ is → σ'[j]? = σ[j]?) → Sr X.K ρ' A σ' H → Q σ' H) → TMGs X ts vs σ H Q
/-- what a walk yields, while G holds -/
structure Wk (K : Frag) (H0 : Hp) (J : It) (G : AH → Prop) (n : Nat) (f : Nat → D) : Prop where
  go : ∀ (i : Nat) (H : Hp) (A : AH), i < n → TS H0 H → Rel K A H → G A → J.go i H
  yl : ∀ (i : Nat) (H : Hp) (A : AH) (x : V) (H' : Hp), i < n → TS H0 H → Rel K A H → G A → J.yld i H x H' → TS H H' ∧ Rel K A H' ∧ Rp K H' x (f i)
  st : ∀ (H : Hp) (A : AH), TS H0 H → Rel K A H → G A → J.stop n H
def AI (X : Cx) (tg iter : Expr) (ρ : Ro) (A : AH) (k : AH → (AH → Prop) → Nat → (Nat → D) → Prop) : Prop := ∀ (σ : L2.St) (H : Hp), Sr X.K ρ A σ H → ∀ R : It → Hp → Prop,
  (∀ J H' A' G n f, TS H H' → Rel X.K A' H' → Wk X.K H' J G n f → k A' G n f → R J H') → TMI X tg iter σ H R
structure AEnds where
  nx : Ro → AH → Prop
  rt : D → AH → Prop
  bk : Ro → AH → Prop := fun _ _ => False
  ct : Ro → AH → Prop := fun _ _ => False
  xc : Value → Ro → AH → Prop := fun _ _ _ => False
structure EOk (K : Frag) (W : WX) (H : Hp) (E : AEnds) (D : Ends) : Prop where
  nx : ∀ ρ' A' σ' H', TS H H' → Sr K ρ' A' σ' H' → E.nx ρ' A' → D.nx σ' H'
  rt : ∀ d A' v H', TS H H' → Rel K A' H' → Rp K H' v d → E.rt d A' → D.rt v H'
  bk : ∀ ρ' A' σ' H', TS H H' → Sr K ρ' A' σ' H' → E.bk ρ' A' → D.bk σ' H'
  ct : ∀ ρ' A' σ' H', TS H H' → Sr K ρ' A' σ' H' → E.ct ρ' A' → D.ct σ' H'
  xc : ∀ c ρ' A' σ' H', TS H H' → Sr K ρ' A' σ' H' → E.xc c ρ' A' → W c none σ' H'
theorem EOk.mono {K : Frag} {W : WX} {H H' : Hp} {E : AEnds} {D : Ends} (e : EOk K W H E D) (t : TS H H') : EOk K W H' E D :=
  ⟨fun _ _ _ _ a => e.nx _ _ _ _ (t.trans a), fun _ _ _ _ a => e.rt _ _ _ _ (t.trans a), fun _ _ _ _ a => e.bk _ _ _ _ (t.trans a), fun _ _ _ _ a => e.ct _ _ _ _ (t.trans a), fun _ _ _ _ _ a => e.xc _ _ _ _ _ (t.trans a)⟩
def AS (X : Cx) (W : WX) (sts : List Stmt) (ρ : Ro) (A : AH) (E : AEnds) : Prop := ∀ (σ : L2.St) (H : Hp), Sr X.K ρ A σ H → ∀ D : Ends, EOk X.K W H E D → TMs X sts D σ H
def A1 (X : Cx) (W : WX) (st : Stmt) (ρ : Ro) (A : AH) (E : AEnds) : Prop := ∀ (σ : L2.St) (H : Hp), Sr X.K ρ A σ H → ∀ D : Ends, EOk X.K W H E D → TM1 X st D σ H

section
variable {X : Cx} {W : WX} {ρ : Ro} {A : AH} {e a b c : Expr} {es : List Expr} {pos : Pos} {d x y : D} {k : AK}
theorem AV.ae (h : AV X e ρ A d) (q : k d A) : AE X e ρ A k := fun σ H s Q hq => h σ H s Q fun v H' t r l => hq v H' d A t r l q
theorem AE.av (h : AE X e ρ A fun d' A' => d' = d ∧ Ext A A') : AV X e ρ A d := fun σ H s Q hq => h σ H s Q fun v H' d' A' t r l q => hq v H' t (by rw [← q.1]; exact r) (l.sub q.2)
theorem AE.mono {k' : AK} (h : AE X e ρ A k) (m : ∀ d A', k d A' → k' d A') : AE X e ρ A k' := fun σ H s Q hq => h σ H s Q fun v H' d A' t r l q => hq v H' d A' t r l (m d A' q)
theorem AE.weak (h : AE X e ρ A fun d A' => ∃ A'', Ext A'' A' ∧ k d A'') : AE X e ρ A k := fun σ H s Q hq => h σ H s Q fun v H' d A' t r l ⟨A'', x, q⟩ => hq v H' d A'' t r (l.sub x) q
theorem AVs.aes {ds : List D} {k : List D → AH → Prop} (h : AVs X es ρ A ds) (q : k ds A) : AEs X es ρ A k := fun σ H s Q hq => h σ H s Q fun v H' t r l => hq v H' ds A t r l q
theorem AT.aet {b : Bool} {k : Bool → AH → Prop} (h : AT X e ρ A b) (q : k b A) : AET X e ρ A k := fun σ H s Q hq => h σ H s Q fun H' t l => hq b H' A t l q
theorem AET.at' {b : Bool} (h : AET X e ρ A fun b' A' => b' = b ∧ Ext A A') : AT X e ρ A b := fun σ H s Q hq => h σ H s Q fun b' H' A' t l q => by
  rw [q.1]; exact hq H' t (l.sub q.2)
theorem AV.is {d' : D} (h : AV X e ρ A d) (q : d = d') : AV X e ρ A d' := q ▸ h
theorem AT.is {b b' : Bool} (h : AT X e ρ A b) (q : b = b') : AT X e ρ A b' := q ▸ h

/-! ### names, constants -/
theorem av_var {i : Nat} {n : Str} (hN : X.N[i]? = some n) (hv : Vis X.env.scope n) (h : ρ[i]? = some (some d)) (hd : (n == ("__debug__" : Str)) = false := by decide) (hcd : (n == ("__classdict__" : Str)) = false := by decide) : AV X (.Name n pos) ρ A d :=
  fun σ H s Q q => by
    obtain ⟨v, e, r⟩ := s.val i d h
    exact tm_of (pe_var hN hv hd hcd) ⟨v, e, q v H (TS.refl H) r s.hp⟩
theorem av_int {i : Int} {j : Nat} : AV X (.Constant (.int i) j pos) ρ A (.int i) := fun σ H s Q q => tm_of pe_int (q _ H (TS.refl H) (.int i) s.hp)
theorem av_bl {i : Bool} {j : Nat} : AV X (.Constant (.bool i) j pos) ρ A (.bl i) := fun σ H s Q q => tm_of pe_bl (q _ H (TS.refl H) (.bl i) s.hp)
theorem av_non {j : Nat} : AV X (.Constant .none j pos) ρ A .non := fun σ H s Q q => tm_of pe_non (q _ H (TS.refl H) .non s.hp)
theorem av_str {i : Str} {j : Nat} : AV X (.Constant (.str i) j pos) ρ A (.str i) := fun σ H s Q q => tm_of pe_str (q _ H (TS.refl H) (.str i) s.hp)
/-- a module's name -/
theorem av_glob {n : Str} {u : Value} {v : V} (hg : Gl X n) (hm : X.mg n = some u) (r : RelV v u) (h : ∀ H, Rp X.K H v d) (hd : (n == ("__debug__" : Str)) = false := by decide) : AV X (.Name n pos) ρ A d :=
  fun σ H s Q q => tm_of (pe_glob hg hm r hd) (q v H (TS.refl H) (h H) s.hp)
theorem av_bltn {n : Str} {u : Value} {v : V} (hg : Gl X n) (hm : X.mg n = none) (hv : bootBuiltins n = some u) (r : RelV v u) (h : ∀ H, Rp X.K H v d) (hn : n ≠ "__name__" := by decide) (hd : (n == ("__debug__" : Str)) = false := by decide) : AV X (.Name n pos) ρ A d :=
  fun σ H s Q q => tm_of (pe_bltn hg hm hv r hn hd) (q v H (TS.refl H) (h H) s.hp)

/-! ### operators -/
theorem ae_op {op : Operator} {r : R2} (ho : OpR X (binaryOp op) r)
    (h : AE X a ρ A fun x A1 => AE X b ρ A1 fun y A2 => ∀ v u H, Rp X.K H v x → Rp X.K H u y → Rel X.K A2 H → ∀ Q : VK, (∀ z H' d A', TS H H' → Rp X.K H' z d → Rel X.K A' H' → k d A' → Q z H') → r v u H Q) : AE X (.BinOp a op b pos) ρ A k :=
  fun σ H s Q q => tm_of (pe_op ho (pe_tm a) (pe_tm b)) (h σ H s _ fun v H1 x A1 t1 r1 l1 h1 => h1 σ H1 (s.mono t1 l1) _ fun u H2 y A2 t2 r2 l2 h2 =>
    h2 v u H2 (r1.mono t2) r2 l2 Q fun z H' d A' t3 r3 l3 q3 => q z H' d A' ((t1.trans t2).trans t3) r3 l3 q3)
theorem av_op {op : Operator} {r : R2} (ho : OpR X (binaryOp op) r) (ha : AV X a ρ A x) (hb : AV X b ρ A y)
    (h : ∀ v u H, Rp X.K H v x → Rp X.K H u y → Rel X.K A H → ∀ Q : VK, (∀ z H', TS H H' → Rp X.K H' z d → Rel X.K A H' → Q z H') → r v u H Q) : AV X (.BinOp a op b pos) ρ A d :=
  fun σ H s Q q => tm_of (pe_op ho (pe_tm a) (pe_tm b)) (ha σ H s _ fun v H1 t1 r1 l1 => hb σ H1 (s.mono t1 l1) _ fun u H2 t2 r2 l2 =>
    h v u H2 (r1.mono t2) r2 l2 Q fun z H' t3 r3 l3 => q z H' ((t1.trans t2).trans t3) r3 l3)
theorem av_opI0 {op : Operator} {g : Int → Int → Int} {i j : Int} (ho : OpR X (binaryOp op) (rI0 fun i j => .int (g i j))) (ha : AV X a ρ A (.int i)) (hb : AV X b ρ A (.int j)) : AV X (.BinOp a op b pos) ρ A (.int (g i j)) :=
  av_op ho ha hb fun _ _ H r1 r2 l Q q => by
    rw [r1.int_of, r2.int_of]
    exact ⟨i, j, rfl, rfl, q _ H (TS.refl H) (.int _) l⟩
theorem av_opI {op : Operator} {C : Int → Int → Prop} {g : Int → Int → Int} {i j : Int} (ho : OpR X (binaryOp op) (rI C fun i j => .int (g i j))) (ha : AV X a ρ A (.int i)) (hb : AV X b ρ A (.int j)) (hc : C i j) : AV X (.BinOp a op b pos) ρ A (.int (g i j)) :=
  av_op ho ha hb fun _ _ H r1 r2 l Q q => by
    rw [r1.int_of, r2.int_of]
    exact ⟨i, j, rfl, rfl, hc, q _ H (TS.refl H) (.int _) l⟩
theorem av_add {i j : Int} (ha : AV X a ρ A (.int i)) (hb : AV X b ρ A (.int j)) : AV X (.BinOp a .Add b pos) ρ A (.int (i + j)) := av_opI0 (g := fun i j => i + j) op_add ha hb
theorem av_sub {i j : Int} (ha : AV X a ρ A (.int i)) (hb : AV X b ρ A (.int j)) : AV X (.BinOp a .Sub b pos) ρ A (.int (i - j)) := av_opI0 (g := fun i j => i - j) op_sub ha hb
theorem av_mul {i j : Int} (ha : AV X a ρ A (.int i)) (hb : AV X b ρ A (.int j)) (hc : CMulX i j) : AV X (.BinOp a .Mult b pos) ρ A (.int (i * j)) := av_opI (g := fun i j => i * j) op_mulX ha hb hc
theorem av_div {i j : Int} (ha : AV X a ρ A (.int i)) (hb : AV X b ρ A (.int j)) (hc : CDivW i j) : AV X (.BinOp a .FloorDiv b pos) ρ A (.int (i / j)) := av_opI (g := fun i j => i / j) op_fdivW ha hb hc
theorem av_mod {i j : Int} (ha : AV X a ρ A (.int i)) (hb : AV X b ρ A (.int j)) (hc : 0 < j) : AV X (.BinOp a .Mod b pos) ρ A (.int (i % j)) := av_opI (C := fun _ j => 0 < j) (g := fun i j => i % j) op_mod ha hb hc
theorem av_pow {i j : Int} (ha : AV X a ρ A (.int i)) (hb : AV X b ρ A (.int j)) (hc : CPow i j) : AV X (.BinOp a .Pow b pos) ρ A (.int (i ^ j.toNat)) := av_opI (g := fun i j => i ^ j.toNat) op_pow ha hb hc
theorem av_shl {i j : Int} (ha : AV X a ρ A (.int i)) (hb : AV X b ρ A (.int j)) (hc : CPow i j) : AV X (.BinOp a .LShift b pos) ρ A (.int (i * 2 ^ j.toNat)) := av_opI (g := fun i j => i * 2 ^ j.toNat) op_shl ha hb hc
theorem av_neg {i : Int} (ha : AV X a ρ A (.int i)) : AV X (.UnaryOp .USub a pos) ρ A (.int (-i)) := fun σ H s Q q => tm_of (pe_un un_neg (pe_tm a)) (ha σ H s _ fun v H1 t1 r1 l1 => by
  rw [r1.int_of]
  exact ⟨i, rfl, q _ H1 t1 (.int _) l1⟩)

/-! ### comparisons -/
theorem av_cmp {op : CmpOp} {r : R2} (ho : OpR X (compareOp op) r) (hm : behindInMarks op b = false) (ha : AV X a ρ A x) (hb : AV X b ρ A y) (h : ∀ v u H, Rp X.K H v x → Rp X.K H u y → Rel X.K A H → ∀ Q : VK, (∀ z H', TS H H' → Rp X.K H' z d → Rel X.K A H' → Q z H') → r v u H Q) :
    AV X (.Compare a [op] [b] pos) ρ A d :=
  fun σ H s Q q => tm_of (pe_cmpR ho (pe_tm a) (pe_tm b) hm) (ha σ H s _ fun v H1 t1 r1 l1 => hb σ H1 (s.mono t1 l1) _ fun u H2 t2 r2 l2 =>
    h v u H2 (r1.mono t2) r2 l2 Q fun z H' t3 r3 l3 => q z H' ((t1.trans t2).trans t3) r3 l3)
theorem at_cmp {op : CmpOp} {r : R2} {bb : Bool} (ho : OpR X (compareOp op) r) (hm : behindInMarks op b = false) (ha : AV X a ρ A x) (hb : AV X b ρ A y) (h : ∀ v u H, Rp X.K H v x → Rp X.K H u y → Rel X.K A H → ∀ Q : VK, (∀ H', TS H H' → Rel X.K A H' → Q (.bl bb) H') → r v u H Q) :
    AT X (.Compare a [op] [b] pos) ρ A bb :=
  fun σ H s Q q => tmt_of (pt_cmpR ho (pe_tm a) (pe_tm b) hm) (ha σ H s _ fun v H1 t1 r1 l1 => hb σ H1 (s.mono t1 l1) _ fun u H2 t2 r2 l2 =>
    h v u H2 (r1.mono t2) r2 l2 _ fun H' t3 l3 => ⟨bb, rfl, q H' ((t1.trans t2).trans t3) l3⟩)
theorem aet_cmp {op : CmpOp} {r : R2} {kt : Bool → AH → Prop} (ho : OpR X (compareOp op) r) (hm : behindInMarks op b = false)
    (h : AE X a ρ A fun x A1 => AE X b ρ A1 fun y A2 => ∀ v u H, Rp X.K H v x → Rp X.K H u y → Rel X.K A2 H → ∀ Q : VK, (∀ bb H' A', TS H H' → Rel X.K A' H' → kt bb A' → Q (.bl bb) H') → r v u H Q) : AET X (.Compare a [op] [b] pos) ρ A kt :=
  fun σ H s Q q => tmt_of (pt_cmpR ho (pe_tm a) (pe_tm b) hm) (h σ H s _ fun v H1 x A1 t1 r1 l1 h1 => h1 σ H1 (s.mono t1 l1) _ fun u H2 y A2 t2 r2 l2 h2 =>
    h2 v u H2 (r1.mono t2) r2 l2 _ fun bb H' A' t3 l3 q3 => ⟨bb, rfl, q bb H' A' ((t1.trans t2).trans t3) l3 q3⟩)
section
variable {i j : Int}
theorem cmpI {r : R2} {g : Int → Int → Bool} (e : r = rI0 fun i j => .bl (g i j)) : ∀ v u H, Rp X.K H v (.int i) → Rp X.K H u (.int j) → Rel X.K A H → ∀ Q : VK, (∀ H', TS H H' → Rel X.K A H' → Q (.bl (g i j)) H') → r v u H Q := fun v u H r1 r2 l Q q => by
  rw [e, r1.int_of, r2.int_of]
  exact ⟨i, j, rfl, rfl, q H (TS.refl H) l⟩
theorem at_lt (ha : AV X a ρ A (.int i)) (hb : AV X b ρ A (.int j)) : AT X (.Compare a [.Lt] [b] pos) ρ A (decide (i < j)) := at_cmp op_lt (nomark _) ha hb (cmpI (g := fun i j => decide (i < j)) rfl)
theorem at_le (ha : AV X a ρ A (.int i)) (hb : AV X b ρ A (.int j)) : AT X (.Compare a [.LtE] [b] pos) ρ A (decide (i ≤ j)) := at_cmp op_le (nomark _) ha hb (cmpI (g := fun i j => decide (i ≤ j)) rfl)
theorem at_gt (ha : AV X a ρ A (.int i)) (hb : AV X b ρ A (.int j)) : AT X (.Compare a [.Gt] [b] pos) ρ A (decide (j < i)) := at_cmp op_gt (nomark _) ha hb (cmpI (g := fun i j => decide (j < i)) rfl)
theorem at_ge (ha : AV X a ρ A (.int i)) (hb : AV X b ρ A (.int j)) : AT X (.Compare a [.GtE] [b] pos) ρ A (decide (j ≤ i)) := at_cmp op_ge (nomark _) ha hb (cmpI (g := fun i j => decide (j ≤ i)) rfl)
theorem dec_V {i j : Int} : decide (V.int i = V.int j) = decide (i = j) := by
  by_cases h : i = j
  · subst h; simp
  · rw [decide_eq_false h, decide_eq_false fun e => h (V.int.inj e)]
theorem cmpEqI : ∀ v u H, Rp X.K H v (.int i) → Rp X.K H u (.int j) → Rel X.K A H → ∀ Q : VK, (∀ H', TS H H' → Rel X.K A H' → Q (.bl (decide (i = j))) H') → rEq v u H Q := fun v u H r1 r2 l Q q => by
  rw [r1.int_of, r2.int_of]
  refine ⟨rfl, ?_⟩
  rw [dec_V]
  exact q H (TS.refl H) l
theorem cmpNeI : ∀ v u H, Rp X.K H v (.int i) → Rp X.K H u (.int j) → Rel X.K A H → ∀ Q : VK, (∀ H', TS H H' → Rel X.K A H' → Q (.bl (!decide (i = j))) H') → rNe v u H Q := fun v u H r1 r2 l Q q => by
  rw [r1.int_of, r2.int_of]
  refine ⟨rfl, ?_⟩
  rw [dec_V]
  exact q H (TS.refl H) l
theorem at_eq (ha : AV X a ρ A (.int i)) (hb : AV X b ρ A (.int j)) : AT X (.Compare a [.Eq] [b] pos) ρ A (decide (i = j)) := at_cmp op_eq (nomark _) ha hb cmpEqI
theorem at_ne (ha : AV X a ρ A (.int i)) (hb : AV X b ρ A (.int j)) : AT X (.Compare a [.NotEq] [b] pos) ρ A (!decide (i = j)) := at_cmp op_ne (nomark _) ha hb cmpNeI
theorem blz {bb : Bool} {Q : VK} {H : Hp} (q : ∀ z H', TS H H' → Rp X.K H' z (.bl bb) → Rel X.K A H' → Q z H') : ∀ H', TS H H' → Rel X.K A H' → Q (.bl bb) H' := fun H' t l => q _ H' t (.bl bb) l
theorem av_lt (ha : AV X a ρ A (.int i)) (hb : AV X b ρ A (.int j)) : AV X (.Compare a [.Lt] [b] pos) ρ A (.bl (decide (i < j))) := av_cmp op_lt (nomark _) ha hb fun v u H r1 r2 l Q q => cmpI (g := fun i j => decide (i < j)) rfl v u H r1 r2 l Q (blz q)
theorem av_le (ha : AV X a ρ A (.int i)) (hb : AV X b ρ A (.int j)) : AV X (.Compare a [.LtE] [b] pos) ρ A (.bl (decide (i ≤ j))) := av_cmp op_le (nomark _) ha hb fun v u H r1 r2 l Q q => cmpI (g := fun i j => decide (i ≤ j)) rfl v u H r1 r2 l Q (blz q)
theorem av_gt (ha : AV X a ρ A (.int i)) (hb : AV X b ρ A (.int j)) : AV X (.Compare a [.Gt] [b] pos) ρ A (.bl (decide (j < i))) := av_cmp op_gt (nomark _) ha hb fun v u H r1 r2 l Q q => cmpI (g := fun i j => decide (j < i)) rfl v u H r1 r2 l Q (blz q)
theorem av_ge (ha : AV X a ρ A (.int i)) (hb : AV X b ρ A (.int j)) : AV X (.Compare a [.GtE] [b] pos) ρ A (.bl (decide (j ≤ i))) := av_cmp op_ge (nomark _) ha hb fun v u H r1 r2 l Q q => cmpI (g := fun i j => decide (j ≤ i)) rfl v u H r1 r2 l Q (blz q)
theorem av_eq (ha : AV X a ρ A (.int i)) (hb : AV X b ρ A (.int j)) : AV X (.Compare a [.Eq] [b] pos) ρ A (.bl (decide (i = j))) := av_cmp op_eq (nomark _) ha hb fun v u H r1 r2 l Q q => cmpEqI v u H r1 r2 l Q (blz q)
theorem av_ne (ha : AV X a ρ A (.int i)) (hb : AV X b ρ A (.int j)) : AV X (.Compare a [.NotEq] [b] pos) ρ A (.bl (!decide (i = j))) := av_cmp op_ne (nomark _) ha hb fun v u H r1 r2 l Q q => cmpNeI v u H r1 r2 l Q (blz q)
end

/-! ### tests -/
theorem at_val {bb : Bool} (h : AV X e ρ A (.bl bb)) (he : ∀ whole, isTrue e X.env whole = (do let v ← whole; standAt e.pos; holding [v] (truthy v)) := by intro _; rfl) : AT X e ρ A bb :=
  fun σ H s Q q => tmt_of (pt_val (pe_tm e) he) (h σ H s _ fun v H1 t1 r1 l1 => ⟨bb, r1.bl_of, q H1 t1 l1⟩)
theorem aet_val {kt : Bool → AH → Prop} (h : AE X e ρ A fun d A' => ∃ bb, d = .bl bb ∧ kt bb A') (he : ∀ whole, isTrue e X.env whole = (do let v ← whole; standAt e.pos; holding [v] (truthy v)) := by intro _; rfl) : AET X e ρ A kt :=
  fun σ H s Q q => tmt_of (pt_val (pe_tm e) he) (h σ H s _ fun v H1 d A' t1 r1 l1 ⟨bb, eb, kb⟩ => ⟨bb, by rw [eb] at r1; exact r1.bl_of, q bb H1 A' t1 l1 kb⟩)
theorem at_not {bb : Bool} (h : AT X e ρ A bb) : AT X (.UnaryOp .Not e pos) ρ A (!bb) := fun σ H s Q q => tmt_of (pt_not (pt_tm e)) (h σ H s _ fun H1 t1 l1 => q H1 t1 l1)
theorem aet_not {kt : Bool → AH → Prop} (h : AET X e ρ A fun b A' => kt (!b) A') : AET X (.UnaryOp .Not e pos) ρ A kt := fun σ H s Q q => tmt_of (pt_not (pt_tm e)) (h σ H s _ fun b H1 A' t1 l1 kb => q _ H1 A' t1 l1 kb)
theorem AW.at {bb : Bool} (h : AW X e ρ A bb) : AT X e ρ A bb := fun σ H s Q q => tmt_of (pw_tm e).pt (h σ H s Q q)
theorem AEW.aet {kt : Bool → AH → Prop} (h : AEW X e ρ A kt) : AET X e ρ A kt := fun σ H s Q q => tmt_of (pw_tm e).pt (h σ H s Q q)
variable {b1 b2 : Bool} {rest : List Expr} {kt : Bool → AH → Prop}
theorem aw_and1 (h : AT X a ρ A b1) : AW X (.BoolOp .And [a] pos) ρ A b1 := fun σ H s Q q => tmw_of (pw_and1 (pt_tm a)) (h σ H s Q q)
theorem aw_or1 (h : AT X a ρ A b1) : AW X (.BoolOp .Or [a] pos) ρ A b1 := fun σ H s Q q => tmw_of (pw_or1 (pt_tm a)) (h σ H s Q q)
theorem aw_and (h : AT X a ρ A b1) (h2 : b1 = true → AW X (.BoolOp .And (b :: rest) pos) ρ A b2) : AW X (.BoolOp .And (a :: b :: rest) pos) ρ A (b1 && b2) := fun σ H s Q q =>
  tmw_of (pw_and (pt_tm a) (pw_tm _)) (h σ H s _ fun H1 t1 l1 => by
    cases b1 with
    | true => exact iteT (h2 rfl σ H1 (s.mono t1 l1) Q fun H2 t2 l2 => q H2 (t1.trans t2) l2)
    | false => exact iteF (q H1 t1 l1))
theorem aw_or (h : AT X a ρ A b1) (h2 : b1 = false → AW X (.BoolOp .Or (b :: rest) pos) ρ A b2) : AW X (.BoolOp .Or (a :: b :: rest) pos) ρ A (b1 || b2) := fun σ H s Q q =>
  tmw_of (pw_or (pt_tm a) (pw_tm _)) (h σ H s _ fun H1 t1 l1 => by
    cases b1 with
    | false => exact iteF (h2 rfl σ H1 (s.mono t1 l1) Q fun H2 t2 l2 => q H2 (t1.trans t2) l2)
    | true => exact iteT (q H1 t1 l1))
theorem aew_and1 (h : AET X a ρ A kt) : AEW X (.BoolOp .And [a] pos) ρ A kt := fun σ H s Q q => tmw_of (pw_and1 (pt_tm a)) (h σ H s Q q)
theorem aew_or1 (h : AET X a ρ A kt) : AEW X (.BoolOp .Or [a] pos) ρ A kt := fun σ H s Q q => tmw_of (pw_or1 (pt_tm a)) (h σ H s Q q)
theorem aew_and (h : AET X a ρ A fun b1 A1 => (b1 = true → AEW X (.BoolOp .And (b :: rest) pos) ρ A1 kt) ∧ (b1 = false → kt false A1)) : AEW X (.BoolOp .And (a :: b :: rest) pos) ρ A kt := fun σ H s Q q =>
  tmw_of (pw_and (pt_tm a) (pw_tm _)) (h σ H s _ fun b1 H1 A1 t1 l1 hh => by
    cases b1 with
    | true => exact iteT (hh.1 rfl σ H1 (s.mono t1 l1) Q fun b2 H2 A2 t2 l2 k2 => q b2 H2 A2 (t1.trans t2) l2 k2)
    | false => exact iteF (q _ H1 A1 t1 l1 (hh.2 rfl)))
theorem aew_or (h : AET X a ρ A fun b1 A1 => (b1 = false → AEW X (.BoolOp .Or (b :: rest) pos) ρ A1 kt) ∧ (b1 = true → kt true A1)) : AEW X (.BoolOp .Or (a :: b :: rest) pos) ρ A kt := fun σ H s Q q =>
  tmw_of (pw_or (pt_tm a) (pw_tm _)) (h σ H s _ fun b1 H1 A1 t1 l1 hh => by
    cases b1 with
    | false => exact iteF (hh.1 rfl σ H1 (s.mono t1 l1) Q fun b2 H2 A2 t2 l2 k2 => q b2 H2 A2 (t1.trans t2) l2 k2)
    | true => exact iteT (q _ H1 A1 t1 l1 (hh.2 rfl)))
/-! .. as values -/
theorem av_one {op : BoolOp} (h : AV X a ρ A d) : AV X (.BoolOp op [a] pos) ρ A d := fun σ H s Q q => tm_of (pe_one (pe_tm a)) (h σ H s Q q)
theorem av_and (h : AV X a ρ A (.bl b1)) (h2 : b1 = true → AV X (.BoolOp .And (b :: rest) pos) ρ A (.bl b2)) : AV X (.BoolOp .And (a :: b :: rest) pos) ρ A (.bl (b1 && b2)) := fun σ H s Q q =>
  tm_of (pe_and (pe_tm a) (pe_tm _)) (h σ H s _ fun v H1 t1 r1 l1 => ⟨b1, r1.bl_of, by
    cases b1 with
    | true => exact iteT (h2 rfl σ H1 (s.mono t1 l1) Q fun v2 H2 t2 r2 l2 => q v2 H2 (t1.trans t2) r2 l2)
    | false => exact iteF (q _ H1 t1 (.bl _) l1)⟩)
theorem av_or (h : AV X a ρ A (.bl b1)) (h2 : b1 = false → AV X (.BoolOp .Or (b :: rest) pos) ρ A (.bl b2)) : AV X (.BoolOp .Or (a :: b :: rest) pos) ρ A (.bl (b1 || b2)) := fun σ H s Q q =>
  tm_of (pe_or (pe_tm a) (pe_tm _)) (h σ H s _ fun v H1 t1 r1 l1 => ⟨b1, r1.bl_of, by
    cases b1 with
    | false => exact iteF (h2 rfl σ H1 (s.mono t1 l1) Q fun v2 H2 t2 r2 l2 => q v2 H2 (t1.trans t2) r2 l2)
    | true => exact iteT (q _ H1 t1 (.bl _) l1)⟩)
theorem ae_one {op : BoolOp} (h : AE X a ρ A k) : AE X (.BoolOp op [a] pos) ρ A k := fun σ H s Q q => tm_of (pe_one (pe_tm a)) (h σ H s Q q)
theorem ae_and (h : AE X a ρ A fun d A1 => ∃ b1, d = .bl b1 ∧ (b1 = true → AE X (.BoolOp .And (b :: rest) pos) ρ A1 k) ∧ (b1 = false → k (.bl false) A1)) : AE X (.BoolOp .And (a :: b :: rest) pos) ρ A k := fun σ H s Q q =>
  tm_of (pe_and (pe_tm a) (pe_tm _)) (h σ H s _ fun v H1 d A1 t1 r1 l1 ⟨b1, eb, h1, h2⟩ => ⟨b1, by rw [eb] at r1; exact r1.bl_of, by
    cases b1 with
    | true => exact iteT (h1 rfl σ H1 (s.mono t1 l1) Q fun v2 H2 d2 A2 t2 r2 l2 k2 => q v2 H2 d2 A2 (t1.trans t2) r2 l2 k2)
    | false => exact iteF (q _ H1 _ A1 t1 (.bl _) l1 (h2 rfl))⟩)
theorem av_not (h : AV X a ρ A (.bl b1)) : AV X (.UnaryOp .Not a pos) ρ A (.bl (!b1)) := fun σ H s Q q => tm_of (pe_not (pe_tm a)) (h σ H s _ fun v H1 t1 r1 l1 => ⟨b1, r1.bl_of, q _ H1 t1 (.bl _) l1⟩)
theorem ae_not (h : AE X a ρ A fun d A1 => ∃ b1, d = .bl b1 ∧ k (.bl (!b1)) A1) : AE X (.UnaryOp .Not a pos) ρ A k := fun σ H s Q q => tm_of (pe_not (pe_tm a)) (h σ H s _ fun v H1 d A1 t1 r1 l1 ⟨b1, eb, h1⟩ => ⟨b1, by rw [eb] at r1; exact r1.bl_of, q _ H1 _ A1 t1 (.bl _) l1 h1⟩)
theorem av_if {dT dF : D} (hc : AT X c ρ A b1) (ha : b1 = true → AV X a ρ A d) (hb : b1 = false → AV X b ρ A d) : AV X (.IfExp c a b pos) ρ A d := fun σ H s Q q =>
  tm_of (pe_ifExp (pt_tm c) (pe_tm a) (pe_tm b)) (hc σ H s _ fun H1 t1 l1 => by
    cases b1 with
    | true => exact iteT (ha rfl σ H1 (s.mono t1 l1) Q fun v2 H2 t2 r2 l2 => q v2 H2 (t1.trans t2) r2 l2)
    | false => exact iteF (hb rfl σ H1 (s.mono t1 l1) Q fun v2 H2 t2 r2 l2 => q v2 H2 (t1.trans t2) r2 l2))

/-! ### argument lists, displays -/
variable {ds : List D}
theorem avs_nil : AVs X [] ρ A [] := fun σ H s Q q => tma_of pa_nil (q [] H (TS.refl H) .nil s.hp)
theorem avs_cons (h : AV X e ρ A d) (hr : AVs X es ρ A ds) (hs : starEach (e :: es) X.env = (false, eval e X.env) :: starEach es X.env := by rfl) : AVs X (e :: es) ρ A (d :: ds) := fun σ H s Q q =>
  tma_of (pa_cons (pe_tm e) (pa_tm es) hs) (h σ H s _ fun v H1 t1 r1 l1 => hr σ H1 (s.mono t1 l1) _ fun vs H2 t2 r2 l2 => q (v :: vs) H2 (t1.trans t2) (.cons (r1.mono t2) r2) l2)
theorem aes_nil {kk : List D → AH → Prop} (h : kk [] A) : AEs X [] ρ A kk := fun σ H s Q q => tma_of pa_nil (q [] H [] A (TS.refl H) .nil s.hp h)
theorem aes_cons {kk : List D → AH → Prop} (h : AE X e ρ A fun d A1 => AEs X es ρ A1 fun ds A2 => kk (d :: ds) A2) (hs : starEach (e :: es) X.env = (false, eval e X.env) :: starEach es X.env := by rfl) : AEs X (e :: es) ρ A kk := fun σ H s Q q =>
  tma_of (pa_cons (pe_tm e) (pa_tm es) hs) (h σ H s _ fun v H1 d A1 t1 r1 l1 h1 => h1 σ H1 (s.mono t1 l1) _ fun vs H2 ds A2 t2 r2 l2 k2 => q (v :: vs) H2 (d :: ds) A2 (t1.trans t2) (.cons (r1.mono t2) r2) l2 k2)
theorem tup_ok {vs : List V} {H : Hp} {p : Addr} {K : Frag} (h : Rps K H vs ds) (hp : H p = none) : Rp K (upd H p (.tup vs)) (.ref p) (.tup ds) := .tup (SqT.of upd_same) (h.mono (TS.new hp))
theorem av_tup {x1 : Nat} (h : AVs X es ρ A ds) (hl : ds.length ≤ sizeLine := by first | decide | exact Nat.le_of_ble_eq_true rfl) : AV X (.Tuple es x1 pos) ρ A (.tup ds) := fun σ H s Q q =>
  tm_of (pe_tup (pa_tm es)) (h σ H s _ fun vs H1 t1 r1 l1 => ⟨by rw [r1.length]; exact hl, fun p hp => q (.ref p) _ (t1.trans (TS.new hp)) (tup_ok r1 hp) (l1.newT hp)⟩)
theorem ae_tup {x1 : Nat} (h : AEs X es ρ A fun ds A1 => ds.length ≤ sizeLine ∧ k (.tup ds) A1) : AE X (.Tuple es x1 pos) ρ A k := fun σ H s Q q =>
  tm_of (pe_tup (pa_tm es)) (h σ H s _ fun vs H1 ds A1 t1 r1 l1 h1 => ⟨by rw [r1.length]; exact h1.1, fun p hp => q (.ref p) _ (.tup ds) A1 (t1.trans (TS.new hp)) (tup_ok r1 hp) (l1.newT hp) h1.2⟩)
theorem ae_lst (h : AEs X es ρ A fun ds A1 => ds.length ≤ sizeLine ∧ ∀ p, A1 p = none → k (.ref p) (aupd A1 p (.lst ds))) : AE X (.List es pos) ρ A k := fun σ H s Q q =>
  tm_of (pe_lst (pa_tm es)) (h σ H s _ fun vs H1 ds A1 t1 r1 l1 h1 => ⟨by rw [r1.length]; exact h1.1, fun p hp => q (.ref p) _ _ _ (t1.trans (TS.new hp)) (.ref p) (l1.newL hp r1).2 (h1.2 p (l1.none hp))⟩)
/-- e gives a new list of ds -/
def AL (X : Cx) (e : Expr) (ρ : Ro) (A : AH) (ds : List D) : Prop := ∀ k : AK, (∀ p, A p = none → k (.ref p) (aupd A p (.lst ds))) → AE X e ρ A k
theorem AL.ae (h : AL X e ρ A ds) (q : ∀ p, A p = none → k (.ref p) (aupd A p (.lst ds))) : AE X e ρ A k := h k q
theorem al_lst (h : AVs X es ρ A ds) (hl : ds.length ≤ sizeLine := by first | decide | exact Nat.le_of_ble_eq_true rfl) : AL X (.List es pos) ρ A ds := fun k q => ae_lst (h.aes ⟨hl, q⟩)

/-! ### subscripts -/
theorem av_ixT {i : Int} (ha : AV X a ρ A (.tup ds)) (hb : AV X b ρ A (.int i)) (h : atI ds i = some d) (hs : PlainIx b := by intro _ _; rfl) : AV X (.Subscript a b pos) ρ A d := fun σ H s Q q =>
  tm_of (pe_ix ix_tup (pe_tm a) (pe_tm b) hs) (ha σ H s _ fun v H1 t1 r1 l1 => hb σ H1 (s.mono t1 l1) _ fun u H2 t2 r2 l2 => by
    obtain ⟨p, vs, rfl, h1, h2⟩ := (r1.mono t2).tup_of
    rw [r2.int_of]
    obtain ⟨w, e1, e2⟩ := h2.atI h
    exact ⟨p, vs, i, w, rfl, rfl, h1, e1, q w H2 (t1.trans t2) e2 l2⟩)
theorem av_ixL {x : D} {i : Int} (ha : AV X a ρ A x) (hb : AV X b ρ A (.int i)) (hl : IsL A x ds) (h : atI ds i = some d) (hs : PlainIx b := by intro _ _; rfl) : AV X (.Subscript a b pos) ρ A d := fun σ H s Q q =>
  tm_of (pe_ix ix_list (pe_tm a) (pe_tm b) hs) (ha σ H s _ fun v H1 t1 r1 l1 => hb σ H1 (s.mono t1 l1) _ fun u H2 t2 r2 l2 => by
    rw [r2.int_of]
    obtain ⟨p, vs, rfl, h1, h2⟩ := hl.sq (r1.mono t2) l2
    obtain ⟨w, e1, e2⟩ := h2.atI h
    exact ⟨p, vs, i, w, rfl, rfl, h1, e1, q w H2 (t1.trans t2) e2 l2⟩)
theorem ae_ixL (h : AE X a ρ A fun x A1 => AE X b ρ A1 fun y A2 => ∃ i ds d, IsL A2 x ds ∧ y = .int i ∧ atI ds i = some d ∧ k d A2) (hs : PlainIx b := by intro _ _; rfl) : AE X (.Subscript a b pos) ρ A k := fun σ H s Q q =>
  tm_of (pe_ix ix_list (pe_tm a) (pe_tm b) hs) (h σ H s _ fun v H1 x A1 t1 r1 l1 h1 => h1 σ H1 (s.mono t1 l1) _ fun u H2 y A2 t2 r2 l2 h2 => by
    obtain ⟨i, ds, d, hl, rfl, hd, hk⟩ := h2
    rw [r2.int_of]
    obtain ⟨p, vs, rfl, h1, h2⟩ := hl.sq (r1.mono t2) l2
    obtain ⟨w, e1, e2⟩ := h2.atI hd
    exact ⟨p, vs, i, w, rfl, rfl, h1, e1, q w H2 d A2 (t1.trans t2) e2 l2 hk⟩)
theorem ae_ixT (h : AE X a ρ A fun x A1 => AE X b ρ A1 fun y A2 => ∃ i ds d, x = .tup ds ∧ y = .int i ∧ atI ds i = some d ∧ k d A2) (hs : PlainIx b := by intro _ _; rfl) : AE X (.Subscript a b pos) ρ A k := fun σ H s Q q =>
  tm_of (pe_ix ix_tup (pe_tm a) (pe_tm b) hs) (h σ H s _ fun v H1 x A1 t1 r1 l1 h1 => h1 σ H1 (s.mono t1 l1) _ fun u H2 y A2 t2 r2 l2 h2 => by
    obtain ⟨i, ds, d, rfl, rfl, hd, hk⟩ := h2
    obtain ⟨p, vs, rfl, h1, h2⟩ := (r1.mono t2).tup_of
    rw [r2.int_of]
    obtain ⟨w, e1, e2⟩ := h2.atI hd
    exact ⟨p, vs, i, w, rfl, rfl, h1, e1, q w H2 d A2 (t1.trans t2) e2 l2 hk⟩)

/-! ### built-ins by name -/
variable {n : Str} {p0 : Pos}
theorem ae_callB {id : String} {r : List V → Hp → VK → Prop} (hc : CallR X (.builtin id) r) (hg : Gl X n) (hm : X.mg n = none) (hv : bootBuiltins n = some (.builtin id))
    (h : AEs X (e :: es) ρ A fun ds A1 => ∀ vs H, Rps X.K H vs ds → Rel X.K A1 H → ∀ Q : VK, (∀ z H' d A', TS H H' → Rp X.K H' z d → Rel X.K A' H' → k d A' → Q z H') → r vs H Q)
    (hn : n ≠ "__name__" := by decide) (hdb : (n == ("__debug__" : Str)) = false := by decide) (he : starEach (e :: es) X.env = (false, eval e X.env) :: starEach es X.env := by rfl) (hpl : (backTo pos (starEach es X.env)).any (·.1) = false := by rfl) :
    AE X (.Call (.Name n p0) (e :: es) [] pos) ρ A k := fun σ H s Q q =>
  tm_of (pe_callB hc hg hm hv (pa_tm (e :: es)) hn hdb he hpl) (h σ H s _ fun vs H1 ds A1 t1 r1 l1 h1 => h1 vs H1 r1 l1 Q fun z H' d A' t2 r2 l2 k2 => q z H' d A' (t1.trans t2) r2 l2 k2)
theorem av_callB {id : String} {r : List V → Hp → VK → Prop} (hc : CallR X (.builtin id) r) (hg : Gl X n) (hm : X.mg n = none) (hv : bootBuiltins n = some (.builtin id))
    (ha : AVs X (e :: es) ρ A ds) (h : ∀ vs H, Rps X.K H vs ds → Rel X.K A H → ∀ Q : VK, (∀ z H', TS H H' → Rp X.K H' z d → Rel X.K A H' → Q z H') → r vs H Q)
    (hn : n ≠ "__name__" := by decide) (hdb : (n == ("__debug__" : Str)) = false := by decide) (he : starEach (e :: es) X.env = (false, eval e X.env) :: starEach es X.env := by rfl) (hpl : (backTo pos (starEach es X.env)).any (·.1) = false := by rfl) :
    AV X (.Call (.Name n p0) (e :: es) [] pos) ρ A d := fun σ H s Q q =>
  tm_of (pe_callB hc hg hm hv (pa_tm (e :: es)) hn hdb he hpl) (ha σ H s _ fun vs H1 t1 r1 l1 => h vs H1 r1 l1 Q fun z H' t2 r2 l2 => q z H' (t1.trans t2) r2 l2)
theorem ae_callTy {id : String} {r : List V → Hp → VK → Prop} (hc : CallR X (.type id) r) (hg : Gl X n) (hm : X.mg n = none) (hv : bootBuiltins n = some (.type id))
    (h : AEs X (e :: es) ρ A fun ds A1 => ∀ vs H, Rps X.K H vs ds → Rel X.K A1 H → ∀ Q : VK, (∀ z H' d A', TS H H' → Rp X.K H' z d → Rel X.K A' H' → k d A' → Q z H') → r vs H Q)
    (hn : n ≠ "__name__" := by decide) (hdb : (n == ("__debug__" : Str)) = false := by decide) (he : starEach (e :: es) X.env = (false, eval e X.env) :: starEach es X.env := by rfl) (hpl : (backTo pos (starEach es X.env)).any (·.1) = false := by rfl) :
    AE X (.Call (.Name n p0) (e :: es) [] pos) ρ A k := fun σ H s Q q =>
  tm_of (pe_callTy hc hg hm hv (pa_tm (e :: es)) hn hdb he hpl) (h σ H s _ fun vs H1 ds A1 t1 r1 l1 h1 => h1 vs H1 r1 l1 Q fun z H' d A' t2 r2 l2 k2 => q z H' d A' (t1.trans t2) r2 l2 k2)
end
end C7
namespace C7
open PySem PySem.Spec PyProof.Rows L2

section
variable {X : Cx} {W : WX} {ρ ρ' : Ro} {A : AH} {E : AEnds} {e a b c : Expr} {es : List Expr} {pos : Pos} {d x y : D} {k : AK} {st : Stmt} {rest body : List Stmt} {ds : List D}

/-! ### blocks -/
theorem as_nil (h : E.nx ρ A) : AS X W [] ρ A E := fun σ H s D q => tms_of pss_nil (q.nx ρ A σ H (TS.refl H) s h)
theorem EOk.seq {K : Frag} {H : Hp} {D : Ends} {t : L2.TS} {nx' : Ro → AH → Prop} (q : EOk K W H E D) (h : ∀ ρ' A' σ' H', TS H H' → Sr K ρ' A' σ' H' → nx' ρ' A' → t D σ' H') : EOk K W H { E with nx := nx' } { D with nx := t D } :=
  ⟨h, q.rt, q.bk, q.ct, q.xc⟩
theorem as_cons (h : A1 X W st ρ A { E with nx := fun ρ' A' => AS X W rest ρ' A' E }) : AS X W (st :: rest) ρ A E := fun σ H s D q =>
  tms_of (pss_cons (ps_tm st) (pss_tm rest)) (h σ H s { D with nx := TMs X rest D } (q.seq fun ρ' A' σ' H' t s' h' => h' σ' H' s' D (q.mono t)))
theorem AS.mono {E' : AEnds} (h : AS X W rest ρ A E) (h1 : ∀ ρ A, E.nx ρ A → E'.nx ρ A) (h2 : ∀ d A, E.rt d A → E'.rt d A) (h3 : ∀ ρ A, E.bk ρ A → E'.bk ρ A) (h4 : ∀ ρ A, E.ct ρ A → E'.ct ρ A) (h5 : ∀ c ρ A, E.xc c ρ A → E'.xc c ρ A) : AS X W rest ρ A E' := fun σ H s D q =>
  h σ H s D ⟨fun _ _ _ _ t s x => q.nx _ _ _ _ t s (h1 _ _ x), fun _ _ _ _ t s r x => q.rt _ _ _ _ t s r (h2 _ _ x), fun _ _ _ _ t s x => q.bk _ _ _ _ t s (h3 _ _ x), fun _ _ _ _ t s x => q.ct _ _ _ _ t s (h4 _ _ x), fun _ _ _ _ _ t s x => q.xc _ _ _ _ _ t s (h5 _ _ _ x)⟩
/-- less may be known -/
theorem AS.sub {A' : AH} (h : AS X W rest ρ A E) (e : Ext A A') : AS X W rest ρ A' E := fun σ H s D q => h σ H (s.sub e) D q

/-! ### small statements -/
theorem a1_pass (h : E.nx ρ A) : A1 X W (.Pass pos) ρ A E := fun σ H s D q => tm1_of ps_pass (q.nx ρ A σ H (TS.refl H) s h)
theorem a1_break (h : E.bk ρ A) : A1 X W (.Break pos) ρ A E := fun σ H s D q => tm1_of ps_break (q.bk ρ A σ H (TS.refl H) s h)
theorem a1_continue (h : E.ct ρ A) : A1 X W (.Continue pos) ρ A E := fun σ H s D q => tm1_of ps_continue (q.ct ρ A σ H (TS.refl H) s h)
theorem a1_ret (h : AE X e ρ A E.rt) : A1 X W (.Return (some e) pos) ρ A E := fun σ H s D q => tm1_of (ps_ret (pe_tm e)) (h σ H s _ fun v H' d A' t r l kd => q.rt d A' v H' t l r kd)
theorem as_ret (h : AE X e ρ A E.rt) : AS X W (.Return (some e) pos :: rest) ρ A E := as_cons (a1_ret h)
theorem as_retv (h : AV X e ρ A d) (q : E.rt d A) : AS X W (.Return (some e) pos :: rest) ρ A E := as_cons (a1_ret (h.ae q))
theorem as_retw {A0 : AH} (h : AV X e ρ A d) (x : Ext A0 A) (q : E.rt d A0) : AS X W (.Return (some e) pos :: rest) ρ A E := as_cons (a1_ret (AE.weak (h.ae ⟨A0, x, q⟩)))
theorem as_nilw {A0 : AH} (x : Ext A0 A) (h : E.nx ρ A0) : AS X W [] ρ A E := fun σ H s D q => tms_of pss_nil (q.nx ρ A0 σ H (TS.refl H) (s.sub x) h)
theorem a1_expr (h : AE X e ρ A fun _ A' => E.nx ρ A') (hs : swapsWith e none pos.line X.env = pure false := by rfl) : A1 X W (.Expr e pos) ρ A E := fun σ H s D q =>
  tm1_of (ps_expr (pe_tm e) hs) (h σ H s _ fun v H' d A' t r l kd => q.nx ρ A' σ H' t (s.mono t l) kd)
theorem a1_if {th el : List Stmt} (h : AET X c ρ A fun bb A' => (bb = true → AS X W th ρ A' E) ∧ (bb = false → AS X W el ρ A' E)) : A1 X W (.If c th el pos) ρ A E := fun σ H s D q =>
  tm1_of (ps_if (pt_tm c) (pss_tm th) (pss_tm el)) (h σ H s _ fun bb H' A' t l kd => by
    cases bb with
    | true => exact iteT (kd.1 rfl σ H' (s.mono t l) D (q.mono t))
    | false => exact iteF (kd.2 rfl σ H' (s.mono t l) D (q.mono t)))
theorem as_if {th el : List Stmt} {bb : Bool} (h : AT X c ρ A bb) (h1 : bb = true → AS X W th ρ A { E with nx := fun ρ' A' => AS X W rest ρ' A' E }) (h2 : bb = false → AS X W el ρ A { E with nx := fun ρ' A' => AS X W rest ρ' A' E }) : AS X W (.If c th el pos :: rest) ρ A E :=
  as_cons (a1_if (h.aet ⟨h1, h2⟩))
/-- an if, the rest shown once, from Mid -/
theorem as_ifm {th el : List Stmt} {bb : Bool} (Mid : Ro → AH → Prop) (h : AT X c ρ A bb) (h1 : bb = true → AS X W th ρ A { E with nx := Mid }) (h2 : bb = false → AS X W el ρ A { E with nx := Mid }) (hr : ∀ ρ' A', Mid ρ' A' → AS X W rest ρ' A' E) : AS X W (.If c th el pos :: rest) ρ A E :=
  as_if h (fun e => (h1 e).mono hr (fun _ _ x => x) (fun _ _ x => x) (fun _ _ x => x) (fun _ _ _ x => x)) (fun e => (h2 e).mono hr (fun _ _ x => x) (fun _ _ x => x) (fun _ _ x => x) (fun _ _ _ x => x))
theorem as_mid (Mid : Ro → AH → Prop) {st : Stmt} (h : A1 X W st ρ A { E with nx := Mid }) (hr : ∀ ρ' A', Mid ρ' A' → AS X W rest ρ' A' E) : AS X W (st :: rest) ρ A E := as_cons fun σ H s D q => h σ H s D ⟨fun _ _ _ _ t s x => q.nx _ _ _ _ t s (hr _ _ x), q.rt, q.bk, q.ct, q.xc⟩
/-- the rest of a block behind an if whose branch falls through -/
theorem as_end (h : AS X W rest ρ A E) : AS X W [] ρ A { E with nx := fun ρ' A' => AS X W rest ρ' A' E } := as_nil h

/-! ### targets -/
theorem ag_name {i : Nat} {n : Str} (hN : X.N.Nodup) (hi : X.N[i]? = some n) (hx : Loc X.env.scope n) (hf : X.fn n = true ∨ X.env.scope.names.lookup n = some .local := by first | exact .inl rfl | exact .inr rfl | assumption) : AG X (.Name n pos) [i] ρ d (ρ.set i (some d)) := fun v σ H A s r Q q =>
  tmg_of (pg_name hN hi hx hf) (q _ (by simp) (fun j hj => by rw [List.getElem?_set_ne (fun z => hj (by simp [z]))]) (s.set i r))
theorem ags_nil : AGs X [] [] ρ [] ρ := fun vs σ H A s r Q q => tmgs_of pgs_nil (by cases r; exact ⟨rfl, q σ rfl (fun _ _ => rfl) s⟩)
theorem ags_cons {is js : List Nat} {ρ1 : Ro} (h : AG X e is ρ d ρ1) (hr : AGs X es js ρ1 ds ρ') (hs : (assignEach (e :: es) X.env).map (·.2) = assign e X.env :: (assignEach es X.env).map (·.2) := by rfl) : AGs X (e :: es) (is ++ js) ρ (d :: ds) ρ' := fun vs σ H A s r Q q => by
  cases r with
  | cons r1 r2 =>
    exact tmgs_of (pgs_cons (pg_tm e) (pgs_tm es) hs) ⟨_, _, rfl, h _ σ H A s r1 _ fun σ1 hl hj s1 => hr _ σ1 H A s1 r2 Q fun σ2 hl2 hj2 s2 =>
      q σ2 (hl2.trans hl) (fun j hm => (hj2 j fun z => hm (List.mem_append_right _ z)).trans (hj j fun z => hm (List.mem_append_left _ z))) s2⟩
theorem ag_tup {is : List Nat} {kk : Nat} (hc : X.calm = true) (h : AGs X es is ρ ds ρ') (hn : (assignEach es X.env).length = ds.length := by rfl) (hst : (assignEach es X.env).findIdx? (·.1) = none := by rfl) : AG X (.Tuple es kk pos) is ρ (.tup ds) ρ' := fun v σ H A s r Q q => by
  obtain ⟨p, vs, rfl, h1, h2⟩ := r.tup_of
  exact tmg_of (pg_tup hc (pgs_tm es) hn hst) ⟨p, vs, rfl, h1, h2.length, h vs σ H A s h2 Q q⟩

/-! ### assignments -/
theorem a1_asg {tg : Expr} {is : List Nat} (h : AE X e ρ A fun d A' => ∃ ρ', AG X tg is ρ d ρ' ∧ E.nx ρ' A') (hs : swapsWithSole [tg] e pos.line X.env = pure false := by rfl) (hw : swappedStores [tg] e X.env = pure none := by rfl)
    (h1 : (assignEach [tg] X.env).map (·.2) = [assign tg X.env] := by rfl) : A1 X W (.Assign [tg] e pos) ρ A E := fun σ H s D q =>
  tm1_of (ps_asg (pe_tm e) (pg_tm tg) hs hw h1) (h σ H s _ fun v H' d A' t r l ⟨ρ', g, kd⟩ => g v σ H' A' (s.mono t l) r _ fun σ' _ _ s' => q.nx ρ' A' σ' H' t s' kd)
theorem a1_set {i : Nat} {n : Str} {pos' : Pos} (hN : X.N.Nodup) (hi : X.N[i]? = some n) (hx : Loc X.env.scope n) (h : AE X e ρ A fun d A' => E.nx (ρ.set i (some d)) A') (hs : swapsWith e (some (.Name n pos')) pos.line X.env = pure false := by rfl)
    (hf : X.fn n = true ∨ X.env.scope.names.lookup n = some .local := by first | exact .inl rfl | exact .inr rfl | assumption) : A1 X W (.Assign [.Name n pos'] e pos) ρ A E := fun σ H s D q =>
  tm1_of (ps_set (i := i) hN hi hx (pe_tm e) hs hf) (h σ H s _ fun v H' d A' t r l kd => q.nx _ A' _ H' t ((s.mono t l).set i r) kd)
theorem as_set {i : Nat} {n : Str} {pos' : Pos} (hN : X.N.Nodup) (hi : X.N[i]? = some n) (hx : Loc X.env.scope n) (h : AE X e ρ A fun d A' => AS X W rest (ρ.set i (some d)) A' E) (hs : swapsWith e (some (.Name n pos')) pos.line X.env = pure false := by rfl)
    (hf : X.fn n = true ∨ X.env.scope.names.lookup n = some .local := by first | exact .inl rfl | exact .inr rfl | assumption) : AS X W (.Assign [.Name n pos'] e pos :: rest) ρ A E := as_cons (a1_set hN hi hx h hs hf)
/-- a, b = e1, e2 -/
theorem a1_par {i j : Nat} {nx ny : Str} {px py pt : Pos} {kt k2 : Nat} {pt2 : Pos} {d1 d2 : D} (hc : X.calm = true) (hN : X.N.Nodup) (hi : X.N[i]? = some nx) (hj : X.N[j]? = some ny) (hij : i ≠ j)
    (hx : X.env.scope.names.lookup nx = some .local) (hy : X.env.scope.names.lookup ny = some .local) (h : AVs X [a, b] ρ A [d1, d2]) (q : E.nx ((ρ.set i (some d1)).set j (some d2)) A)
    (hp : ∀ ta : TA, PA X [a, b] ta → PS X (.Assign [.Tuple [.Name nx px, .Name ny py] kt pt] (.Tuple [a, b] k2 pt2) pos) (tPar i j ta)) : A1 X W (.Assign [.Tuple [.Name nx px, .Name ny py] kt pt] (.Tuple [a, b] k2 pt2) pos) ρ A E := fun σ H s D qq =>
  tm1_of (hp _ (pa_tm [a, b])) (h σ H s _ fun vs H' t r l => by
    cases r with
    | cons r1 r =>
      cases r with
      | cons r2 r =>
        cases r
        exact ⟨_, _, rfl, qq.nx _ A _ H' t (((s.mono t l).set i r1).set j r2) q⟩)
/-- x op= e, numbers -/
theorem a1_augI {i : Nat} {n : Str} {op : Operator} {g : Int → Int → Int} {pos' : Pos} {u v : Int} (hp : PIp X op (ipI g)) (hN : X.N.Nodup) (hi : X.N[i]? = some n) (hx : Loc X.env.scope n) (hv : ρ[i]? = some (some (.int u))) (h : AV X e ρ A (.int v)) (q : E.nx (ρ.set i (some (.int (g u v)))) A)
    (hf : X.fn n = true ∨ X.env.scope.names.lookup n = some .local := by first | exact .inl rfl | exact .inr rfl | assumption) : A1 X W (.AugAssign (.Name n pos') op e pos) ρ A E := fun σ H s D qq =>
  tm1_of (ps_aug (i := i) hN hi hx (pe_tm e) hp hf) (by
    obtain ⟨w, e1, e2⟩ := s.val i _ hv
    refine ⟨w, e1, h σ H s _ fun z H' t r l => ?_⟩
    rw [e2.int_of, r.int_of]
    exact ⟨u, v, rfl, rfl, qq.nx _ A _ H' t ((s.mono t l).set i (.int _)) q⟩)
/-- xs[i] = e -/
theorem a1_setL {o i : Expr} {p : Addr} {j : Int} {m : Nat} {tpos : Pos} (h : AV X e ρ A d) (ho : AV X o ρ A (.ref p)) (hi : AV X i ρ A (.int j)) (hl : A p = some (.lst ds)) (hj : ixN ds.length j = some m) (q : E.nx ρ (aupd A p (.lst (ds.set m d))))
    (ha : ∀ v, assign (.Subscript o i tpos) X.env v = (do
      let ov ← holding [v] (eval o X.env)
      let iv ← holding [v, ov] (eval i X.env)
      standAt tpos
      holding [v, ov, iv] (setItem ov iv v)
      release [v, ov, iv] []) := by intro _; rfl) (hs : swapsWithSole [.Subscript o i tpos] e pos.line X.env = pure false := by rfl) (hw : swappedStores [.Subscript o i tpos] e X.env = pure none := by rfl)
    (h1 : (assignEach [.Subscript o i tpos] X.env).map (·.2) = [assign (.Subscript o i tpos) X.env] := by rfl) : A1 X W (.Assign [.Subscript o i tpos] e pos) ρ A E := fun σ H s D qq =>
  tm1_of (ps_asg (pe_tm e) (pg_sub (pe_tm o) (pe_tm i) set_list ha) hs hw h1) (h σ H s _ fun v H1 t1 r1 l1 => ho σ H1 (s.mono t1 l1) _ fun w H2 t2 r2 l2 => hi σ H2 ((s.mono t1 l1).mono t2 l2) _ fun z H3 t3 r3 l3 => by
    rw [r2.ref_of, r3.int_of]
    obtain ⟨vs, e1, e2⟩ := l3.lst hl
    have tt := (t1.trans t2).trans t3
    obtain ⟨t4, l4⟩ := l3.putL e1 (e2.set ((r1.mono t2).mono t3) m)
    exact ⟨p, vs, j, m, rfl, rfl, e1, by rw [e2.length]; exact hj, qq.nx ρ _ σ _ (tt.trans t4) (s.mono (tt.trans t4) l4) q⟩)

/-! ### loops -/
theorem a1_while (hp : PassesOwn (model X.prog X.w) X.A X.env X.xe) (Pv : Ro → AH → Prop) (μ : Ro → AH → Nat) (h0 : Pv ρ A)
    (hs : ∀ ρ A, Pv ρ A → AET X c ρ A fun bb A1 => (bb = true → AS X W body ρ A1 { E with nx := fun ρ' A' => Pv ρ' A' ∧ μ ρ' A' < μ ρ A, ct := fun ρ' A' => Pv ρ' A' ∧ μ ρ' A' < μ ρ A, bk := E.nx }) ∧ (bb = false → E.nx ρ A1)) : A1 X W (.While c body [] pos) ρ A E := fun σ H s D q =>
  tm1_of (ps_while hp (pt_tm c) (pss_tm body)) (by
    refine ⟨fun m σ' H' => ∃ ρ' A', TS H H' ∧ Sr X.K ρ' A' σ' H' ∧ Pv ρ' A' ∧ m = μ ρ' A', ⟨_, ρ, A, TS.refl H, s, h0, rfl⟩, ?_⟩
    rintro m σ1 H1 ⟨ρ1, A1, t1, s1, p1, rfl⟩
    refine hs ρ1 A1 p1 σ1 H1 s1 _ fun bb H2 A2 t2 l2 kd => ?_
    cases bb with
    | true =>
      refine iteT ⟨fun σ' H' => ∃ ρ' A', TS H H' ∧ Sr X.K ρ' A' σ' H' ∧ Pv ρ' A' ∧ μ ρ' A' < μ ρ1 A1, ?_, ?_⟩
      · rintro σ' H' ⟨ρ', A', t', s', p', lt⟩
        exact ⟨_, lt, ρ', A', t', s', p', rfl⟩
      · have t12 := t1.trans t2
        refine kd.1 rfl σ1 H2 (s1.mono t2 l2) _ ⟨fun ρ' A' σ' H' t' s' p' => ⟨ρ', A', t12.trans t', s', p'.1, p'.2⟩, fun _ _ _ _ t' => q.rt _ _ _ _ (t12.trans t'), fun _ _ _ _ t' => q.nx _ _ _ _ (t12.trans t'), fun ρ' A' σ' H' t' s' p' => ⟨ρ', A', t12.trans t', s', p'.1, p'.2⟩, fun _ _ _ _ _ t' => q.xc _ _ _ _ _ (t12.trans t')⟩
    | false => exact iteF (q.nx ρ1 A2 σ1 H2 (t1.trans t2) (s1.mono t2 l2) (kd.2 rfl)))
/-- for: Pv holds ahead of turn i -/
theorem a1_for {tg iter : Expr} (hp : PassesOwn (model X.prog X.w) X.A X.env X.xe) (hc : X.calm = true)
    (hi : AI X tg iter ρ A fun A1 G n f => ∃ Pv : Nat → Ro → AH → Prop, Pv 0 ρ A1 ∧ (∀ i ρ' A', i ≤ n → Pv i ρ' A' → G A') ∧
      (∀ i ρ' A', i < n → Pv i ρ' A' → ∃ is ρ2, AG X tg is ρ' (f i) ρ2 ∧ AS X W body ρ2 A' { E with nx := Pv (i + 1), ct := Pv (i + 1), bk := E.nx }) ∧ ∀ ρ' A', Pv n ρ' A' → E.nx ρ' A')
    (hs : ∀ x, foldedSetIterable iter X.env x = pure x := by intro _; rfl) : A1 X W (.For tg iter body [] pos) ρ A E := fun σ H s D q =>
  tm1_of (ps_for hp hc (pi_tm tg iter) (pg_tm tg) (pss_tm body) hs) (hi σ H s _ fun J H1 A1 G n f t1 l1 wk ⟨Pv, h0, hG, hb, hd⟩ => by
    refine ⟨fun i m σ' H' => ∃ ρ' A', TS H1 H' ∧ Sr X.K ρ' A' σ' H' ∧ m = n - i ∧ i ≤ n ∧ Pv i ρ' A', ⟨n, ρ, A1, TS.refl _, s.mono t1 l1, by simp, Nat.zero_le _, h0⟩, ?_⟩
    rintro i m σ2 H2 ⟨ρ2, A2, t2, s2, rfl, hle, p2⟩
    by_cases hlt : i < n
    · refine .inr ⟨wk.go i H2 A2 hlt t2 s2.hp (hG i ρ2 A2 hle p2), fun σ' H' => ∃ ρ' A', TS H1 H' ∧ Sr X.K ρ' A' σ' H' ∧ Pv (i + 1) ρ' A', ?_, ?_⟩
      · rintro σ' H' ⟨ρ', A', t', s', p'⟩
        exact ⟨n - (i + 1), by omega, ρ', A', t', s', rfl, hlt, p'⟩
      · intro x H3 y3
        obtain ⟨t3, l3, r3⟩ := wk.yl i H2 A2 x H3 hlt t2 s2.hp (hG i ρ2 A2 hle p2) y3
        obtain ⟨is, ρ4, g4, b4⟩ := hb i ρ2 A2 hlt p2
        refine g4 x σ2 H3 A2 (s2.mono t3 l3) r3 _ fun σ4 _ _ s4 => ?_
        have t23 := t2.trans t3
        have t123 := t1.trans t23
        exact b4 σ4 H3 s4 _ ⟨fun ρ' A' σ' H' t' s' p' => ⟨ρ', A', t23.trans t', s', p'⟩, fun _ _ _ _ t' => q.rt _ _ _ _ (t123.trans t'), fun _ _ _ _ t' => q.nx _ _ _ _ (t123.trans t'), fun ρ' A' σ' H' t' s' p' => ⟨ρ', A', t23.trans t', s', p'⟩, fun _ _ _ _ _ t' => q.xc _ _ _ _ _ (t123.trans t')⟩
    · have e : i = n := by omega
      subst e
      exact .inl ⟨wk.st H2 A2 t2 s2.hp (hG _ ρ2 A2 hle p2), q.nx ρ2 A2 σ2 H2 (t1.trans t2) s2 (hd ρ2 A2 p2)⟩)

/-! ### what is walked -/
variable {tg : Expr} {kI : AH → (AH → Prop) → Nat → (Nat → D) → Prop} {p0 : Pos}
theorem wk_range (K : Frag) (H0 : Hp) (lo : Int) (n : Nat) : Wk K H0 (Itr lo n) (fun _ => True) n (fun i => .int (lo + i)) where
  go := fun i H A h _ _ _ => h
  yl := fun i H A x H' h _ r _ y => by
    obtain ⟨rfl, rfl⟩ := y
    exact ⟨TS.refl _, r, .int _⟩
  st := fun H A _ _ _ => Nat.le_refl n
theorem ai_range1 (hg : Gl X "range") (hm : X.mg "range" = none) (h : AE X a ρ A fun d A1 => ∃ j : Int, d = .int j ∧ -(2 ^ 62) ≤ j ∧ j < 2 ^ 62 ∧ kI A1 (fun _ => True) j.toNat (fun i => .int (0 + i))) (hs : starEach [a] X.env = [(false, eval a X.env)] := by rfl) :
    AI X tg (.Call (.Name "range" p0) [a] [] pos) ρ A kI := fun σ H s R q =>
  tmi_of (pi_range1 hg hm (pa_cons (pe_tm a) pa_nil hs) hs) (h σ H s _ fun v H1 d A1 t1 r1 l1 ⟨j, e, h1, h2, k1⟩ => ⟨j, by rw [e] at r1; rw [r1.int_of], h1, h2, q _ H1 A1 _ _ _ t1 l1 (wk_range X.K H1 0 j.toNat) k1⟩)
theorem ai_range2 (hg : Gl X "range") (hm : X.mg "range" = none) (h : AVs X [a, b] ρ A ds) (hd : ∃ i j : Int, ds = [.int i, .int j] ∧ (-(2 ^ 62) ≤ i ∧ i < 2 ^ 62 ∧ -(2 ^ 62) ≤ j ∧ j < 2 ^ 62) ∧ kI A (fun _ => True) (j - i).toNat (fun m => .int (i + m))) (hs : starEach [a, b] X.env = [(false, eval a X.env), (false, eval b X.env)] := by rfl)
    (hs2 : starEach [b] X.env = [(false, eval b X.env)] := by rfl) : AI X tg (.Call (.Name "range" p0) [a, b] [] pos) ρ A kI := fun σ H s R q =>
  tmi_of (pi_range2 hg hm (pa_tm [a, b]) hs hs2) (h σ H s _ fun vs H1 t1 r1 l1 => by
    obtain ⟨i, j, rfl, hb, k1⟩ := hd
    cases r1 with
    | cons r1 r =>
      cases r with
      | cons r2 r =>
        cases r
        rw [r1.int_of, r2.int_of]
        exact ⟨i, j, rfl, hb, q _ H1 A _ _ _ t1 l1 (wk_range X.K H1 i (j - i).toNat) k1⟩)
theorem wk_list {K : Frag} {H0 : Hp} {p : Addr} {x0 : D} {ds : List D} (r0 : Rp K H0 (.ref p) x0) : Wk K H0 (Itl K p) (fun A => IsL A x0 ds) ds.length (fun i => ds.getD i .non) where
  go := fun i H A h t r g => by
    obtain ⟨p', vs, ep, h1, h2⟩ := g.sq (r0.mono t) r
    cases ep
    have hi : i < vs.length := by rw [h2.length]; exact h
    exact ⟨vs, vs[i], h1, List.getElem?_eq_getElem hi⟩
  yl := fun i H A x H' h t r g y => by
    obtain ⟨rfl, y⟩ := y
    obtain ⟨p', vs, ep, h1, h2⟩ := g.sq (r0.mono t) r
    cases ep
    obtain ⟨d, e1, e2⟩ := h2.getV (y vs h1)
    refine ⟨TS.refl _, r, ?_⟩
    rw [List.getD_eq_getElem?_getD, e1]
    exact e2
  st := fun H A t r g => by
    obtain ⟨p', vs, ep, h1, h2⟩ := g.sq (r0.mono t) r
    cases ep
    exact ⟨vs, h1, by rw [h2.length]; exact Nat.le_refl _⟩
theorem ai_list (h : AE X a ρ A fun d A1 => ∃ ds, IsL A1 d ds ∧ kI A1 (fun A' => IsL A' d ds) ds.length (fun i => ds.getD i .non)) : AI X tg a ρ A kI := fun σ H s R q =>
  tmi_of (pi_list (pe_tm a)) (h σ H s _ fun v H1 d A1 t1 r1 l1 ⟨ds, hl, k1⟩ => by
    obtain ⟨p, vs, rfl, h1, h2⟩ := hl.sq r1 l1
    exact ⟨p, rfl, ⟨vs, h1⟩, q _ H1 A1 _ _ _ t1 l1 (wk_list r1) k1⟩)
theorem wk_tup {K : Frag} {H0 : Hp} {p : Addr} {vs : List V} {ds : List D} (h1 : SqT K H0 p vs) (h2 : Rps K H0 vs ds) : Wk K H0 (Itt K p) (fun _ => True) ds.length (fun i => ds.getD i .non) where
  go := fun i H A h t r g => by
    have hi : i < vs.length := by rw [h2.length]; exact h
    exact ⟨vs, vs[i], t.sq h1, List.getElem?_eq_getElem hi⟩
  yl := fun i H A x H' h t r g y => by
    obtain ⟨rfl, y⟩ := y
    obtain ⟨d, e1, e2⟩ := (h2.mono t).getV (y vs (t.sq h1))
    refine ⟨TS.refl _, r, ?_⟩
    rw [List.getD_eq_getElem?_getD, e1]
    exact e2
  st := fun H A t r g => ⟨vs, t.sq h1, by rw [h2.length]; exact Nat.le_refl _⟩
theorem ai_tup (h : AV X a ρ A (.tup ds)) (k1 : kI A (fun _ => True) ds.length (fun i => ds.getD i .non)) : AI X tg a ρ A kI := fun σ H s R q =>
  tmi_of (pi_tup (pe_tm a)) (h σ H s _ fun v H1 t1 r1 l1 => by
    obtain ⟨p, vs, rfl, h1, h2⟩ := r1.tup_of
    exact ⟨p, rfl, ⟨vs, h1⟩, q _ H1 A (fun A' => True) ds.length _ t1 l1 (wk_tup h1 h2) k1⟩)
theorem wk_enum {K : Frag} {H0 : Hp} {p : Addr} {x0 : D} {ds : List D} (r0 : Rp K H0 (.ref p) x0) : Wk K H0 (Ite K p) (fun A => IsL A x0 ds) ds.length (fun i => .tup [.int (i : Nat), ds.getD i .non]) where
  go := fun i H A h t r g => by
    obtain ⟨p', vs, ep, h1, h2⟩ := g.sq (r0.mono t) r
    cases ep
    have hi : i < vs.length := by rw [h2.length]; exact h
    exact ⟨vs, vs[i], h1, List.getElem?_eq_getElem hi⟩
  yl := fun i H A x H' h t r g y => by
    obtain ⟨T, z, rfl, hT, rfl, y⟩ := y
    obtain ⟨p', vs, ep, h1, h2⟩ := g.sq (r0.mono t) r
    cases ep
    obtain ⟨d, e1, e2⟩ := h2.getV (y vs h1)
    refine ⟨TS.new hT, r.newT hT, ?_⟩
    rw [List.getD_eq_getElem?_getD, e1]
    exact tup_ok (.cons (.int _) (.cons e2 .nil)) hT
  st := fun H A t r g => by
    obtain ⟨p', vs, ep, h1, h2⟩ := g.sq (r0.mono t) r
    cases ep
    exact ⟨vs, h1, by rw [h2.length]; exact Nat.le_refl _⟩
theorem ai_enum {elts : List Expr} {kk : Nat} {tpos : Pos} (hg : Gl X "enumerate") (hm : X.mg "enumerate" = none) (h : AE X a ρ A fun d A1 => ∃ ds, IsL A1 d ds ∧ kI A1 (fun A' => IsL A' d ds) ds.length (fun i => .tup [.int (i : Nat), ds.getD i .non]))
    (hs : starEach [a] X.env = [(false, eval a X.env)] := by rfl) : AI X (.Tuple elts kk tpos) (.Call (.Name "enumerate" p0) [a] [] pos) ρ A kI := fun σ H s R q =>
  tmi_of (pi_enum hg hm (pa_cons (pe_tm a) pa_nil hs) hs) (h σ H s _ fun v H1 d A1 t1 r1 l1 ⟨ds, hl, k1⟩ => by
    obtain ⟨p, vs, rfl, h1, h2⟩ := hl.sq r1 l1
    exact ⟨p, vs, rfl, h1, q _ H1 A1 _ _ _ t1 l1 (wk_enum r1) k1⟩)
theorem wk_zip {K : Frag} {H0 : Hp} {p p' : Addr} {x0 y0 : D} {ds ds' : List D} (r0 : Rp K H0 (.ref p) x0) (r0' : Rp K H0 (.ref p') y0) : Wk K H0 (Itz K p p') (fun A => IsL A x0 ds ∧ IsL A y0 ds') (min ds.length ds'.length) (fun i => .tup [ds.getD i .non, ds'.getD i .non]) where
  go := fun i H A h t r g => by
    obtain ⟨q1, vs, ep, h1, h2⟩ := g.1.sq (r0.mono t) r
    cases ep
    obtain ⟨q2, ws, ep, h3, h4⟩ := g.2.sq (r0'.mono t) r
    cases ep
    have hi : i < vs.length := by rw [h2.length]; omega
    have hj : i < ws.length := by rw [h4.length]; omega
    exact ⟨vs, ws, vs[i], ws[i], h1, h3, List.getElem?_eq_getElem hi, List.getElem?_eq_getElem hj⟩
  yl := fun i H A x H' h t r g y => by
    obtain ⟨T, z, z', rfl, hT, rfl, y, y'⟩ := y
    obtain ⟨q1, vs, ep, h1, h2⟩ := g.1.sq (r0.mono t) r
    cases ep
    obtain ⟨q2, ws, ep, h3, h4⟩ := g.2.sq (r0'.mono t) r
    cases ep
    obtain ⟨d, e1, e2⟩ := h2.getV (y vs h1)
    obtain ⟨d', e3, e4⟩ := h4.getV (y' ws h3)
    refine ⟨TS.new hT, r.newT hT, ?_⟩
    rw [List.getD_eq_getElem?_getD, List.getD_eq_getElem?_getD, e1, e3]
    exact tup_ok (.cons e2 (.cons e4 .nil)) hT
  st := fun H A t r g => by
    obtain ⟨q1, vs, ep, h1, h2⟩ := g.1.sq (r0.mono t) r
    cases ep
    obtain ⟨q2, ws, ep, h3, h4⟩ := g.2.sq (r0'.mono t) r
    cases ep
    refine ⟨vs, ws, h1, h3, ?_⟩
    rw [h2.length, h4.length]
    omega
theorem ai_zip {elts : List Expr} {kk : Nat} {tpos : Pos} (hg : Gl X "zip") (hm : X.mg "zip" = none) (h : AEs X [a, b] ρ A fun es' A1 => ∃ x y ds ds', es' = [x, y] ∧ IsL A1 x ds ∧ IsL A1 y ds' ∧ kI A1 (fun A' => IsL A' x ds ∧ IsL A' y ds') (min ds.length ds'.length) (fun i => .tup [ds.getD i .non, ds'.getD i .non]))
    (hs : starEach [a, b] X.env = (false, eval a X.env) :: starEach [b] X.env := by rfl) (hpl : (backTo pos (starEach [b] X.env)).any (·.1) = false := by rfl) : AI X (.Tuple elts kk tpos) (.Call (.Name "zip" p0) [a, b] [] pos) ρ A kI := fun σ H s R q =>
  tmi_of (pi_zip hg hm (pa_tm [a, b]) hs hpl) (h σ H s _ fun vs H1 es' A1 t1 r1 l1 ⟨x, y, ds, ds', e, hl, hl', k1⟩ => by
    subst e
    cases r1 with
    | cons r1 r =>
      cases r with
      | cons r2 r =>
        cases r
        obtain ⟨p, xs, rfl, h1, h2⟩ := hl.sq r1 l1
        obtain ⟨p', ys, rfl, h3, h4⟩ := hl'.sq r2 l1
        exact ⟨p, p', xs, ys, rfl, h1, h3, q _ H1 A1 _ _ _ t1 l1 (wk_zip r1 r2) k1⟩)
theorem wk_rev {K : Frag} {H0 : Hp} {p : Addr} {x0 : D} {ds : List D} (r0 : Rp K H0 (.ref p) x0) : Wk K H0 (Itv K p ds.length) (fun A => IsL A x0 ds) ds.length (fun i => ds.getD (ds.length - 1 - i) .non) where
  go := fun i H A h t r g => by
    obtain ⟨p', vs, ep, h1, h2⟩ := g.sq (r0.mono t) r
    cases ep
    have hi : ds.length - 1 - i < vs.length := by rw [h2.length]; omega
    exact ⟨h, vs, vs[ds.length - 1 - i], h1, List.getElem?_eq_getElem hi⟩
  yl := fun i H A x H' h t r g y => by
    obtain ⟨rfl, y⟩ := y
    obtain ⟨p', vs, ep, h1, h2⟩ := g.sq (r0.mono t) r
    cases ep
    obtain ⟨d, e1, e2⟩ := h2.getV (y vs h1)
    refine ⟨TS.refl _, r, ?_⟩
    rw [List.getD_eq_getElem?_getD, e1]
    exact e2
  st := fun H A t r g => Nat.le_refl _
theorem ai_rev (hg : Gl X "reversed") (hm : X.mg "reversed" = none) (h : AE X a ρ A fun d A1 => ∃ ds, IsL A1 d ds ∧ kI A1 (fun A' => IsL A' d ds) ds.length (fun i => ds.getD (ds.length - 1 - i) .non))
    (hs : starEach [a] X.env = [(false, eval a X.env)] := by rfl) : AI X tg (.Call (.Name "reversed" p0) [a] [] pos) ρ A kI := fun σ H s R q =>
  tmi_of (pi_reversed hg hm (pa_cons (pe_tm a) pa_nil hs) hs) (h σ H s _ fun v H1 d A1 t1 r1 l1 ⟨ds, hl, k1⟩ => by
    obtain ⟨p, vs, rfl, h1, h2⟩ := hl.sq r1 l1
    refine ⟨p, vs, rfl, h1, ?_⟩
    rw [h2.length]
    exact q _ H1 A1 _ _ _ t1 l1 (wk_rev r1) k1)

/-! ### comprehensions -/
def wipeR (ρ : Ro) : List Nat → Ro
  | [] => ρ
  | v :: vs => (wipeR ρ vs).set v none
theorem Sr.wipe {K : Frag} {σ : L2.St} {H : Hp} (s : Sr K ρ A σ H) : ∀ vs : List Nat, Sr K (wipeR ρ vs) A (L2.wipe σ vs) H
  | [] => s
  | v :: vs => (Sr.wipe s vs).unset v
theorem wipe_eq {σ : L2.St} : ∀ {vs : List Nat} {σ' : L2.St}, σ'.length = σ.length → (∀ j : Nat, j ∉ vs → σ'[j]? = σ[j]?) → L2.wipe σ' vs = L2.wipe σ vs := by
  intro vs σ' hl hj
  have key : ∀ (τ : L2.St) (us : List Nat) (j : Nat), (L2.wipe τ us)[j]? = if j ∈ us then (if j < τ.length then some none else none) else τ[j]? := by
    intro τ us j
    induction us with
    | nil => simp [L2.wipe]
    | cons u us ih =>
      rw [L2.wipe, List.getElem?_set, L2.wipe_length]
      by_cases h : u = j
      · subst h
        simp
      · rw [if_neg h, ih]
        have : ¬ j = u := fun z => h z.symm
        simp [this]
  apply List.ext_getElem?
  intro j
  rw [key, key, hl]
  split
  · rfl
  · rename_i h
    exact hj j h
theorem wipe_wipe {σ : L2.St} (vs : List Nat) : L2.wipe (L2.wipe σ vs) vs = L2.wipe σ vs := by
  refine wipe_eq (L2.wipe_length σ vs) fun j hj => ?_
  exact L2.wipe_out hj
/-- over all blocks -/
def blkE (X : Cx) (scope : Scope) (e : Expr) : TE := fun σ H Q => ∀ (s : Shared) (H0 : Hp) (C : Addr) (cl : List (Str × Addr)) (fp : List Addr), TM (X.blk s H0 scope (compEnvC scope cl C X.env) fp) e σ H Q
def blkG (X : Cx) (scope : Scope) (e : Expr) : TG := fun v σ H Q => ∀ (s : Shared) (H0 : Hp) (C : Addr) (cl : List (Str × Addr)) (fp : List Addr), TMG (X.blk s H0 scope (compEnvC scope cl C X.env) fp) e v σ H Q
/-- a comprehension's walk -/
def AC (X : Cx) (elt tg iter : Expr) (scope : Scope) (own : List (Str × Nat)) (ρ : Ro) (A : AH) (k : AK) : Prop := ∀ (σ : L2.St) (H : Hp), Sr X.K ρ A σ H → ∀ Q : VK, (∀ v H' d A', TS H H' → Rp X.K H' v d → Rel X.K A' H' → k d A' → Q v H') →
  tLc (fun σ H R => TMI X tg iter σ H R) (blkG X scope tg) tYes (blkE X scope elt) (own.map (·.2)) σ H Q
theorem AC.ae {tg iter elt : Expr} {scope : Scope} {own : List (Str × Nat)} (hc : X.calm = true) (hN : X.N.Nodup) (ok : BlkOk X.N X.env.scope scope own) (h : AC X elt tg iter scope own ρ A k)
    (hs : ∀ x, foldedSetIterable iter X.env x = pure x := by intro _; rfl) : AE X (.ListComp elt [⟨tg, iter, [], 0⟩] scope pos) ρ A k := fun σ H s Q q =>
  tm_of (pe_lc (g := blkG X scope tg) (tt := tYes) (te := blkE X scope elt) hc hN (pi_tm tg iter) ok (fun s H0 C cl fp => ⟨fun pins s1 σ1 H1 v u Q1 I r h => (h s H0 C cl fp).go pins s1 u I r⟩) (fun _ _ _ _ _ => pts_nil) (fun s H0 C cl fp => ⟨fun pins s1 σ1 H1 Q1 I h => (h s H0 C cl fp).go pins s1 I⟩) hs) (h σ H s Q q)
/-- name = [..], the name a local -/
theorem as_setLc {i : Nat} {y : Str} {py spos : Pos} {tg iter elt : Expr} {scope : Scope} {own : List (Str × Nat)} (hc : X.calm = true) (hN : X.N.Nodup) (hy : X.N[i]? = some y) (hyl : X.env.scope.names.lookup y = some .local)
    (hsw : swapsWith (.ListComp elt [⟨tg, iter, [], 0⟩] scope pos) (some (.Name y py)) spos.line X.env = pure true) (ok : BlkOk X.N X.env.scope scope own) (h : AC X elt tg iter scope own ρ A fun d A' => AS X W rest (ρ.set i (some d)) A' E)
    (hs : ∀ x, foldedSetIterable iter X.env x = pure x := by intro _; rfl) : AS X W (.Assign [.Name y py] (.ListComp elt [⟨tg, iter, [], 0⟩] scope pos) spos :: rest) ρ A E := as_cons fun σ H s D q =>
  tm1_of (ps_setLc (g := blkG X scope tg) (tt := tYes) (te := blkE X scope elt) hc hN hy hyl hsw (pi_tm tg iter) ok (fun s H0 C cl fp => ⟨fun pins s1 σ1 H1 v u Q1 I r h => (h s H0 C cl fp).go pins s1 u I r⟩) (fun _ _ _ _ _ => pts_nil) (fun s H0 C cl fp => ⟨fun pins s1 σ1 H1 Q1 I h => (h s H0 C cl fp).go pins s1 I⟩) hs)
    (h σ H s _ fun v H' d A' t r l kd => q.nx _ A' _ H' t ((s.mono t l).set i r) kd)
theorem AC.weak {tg iter elt : Expr} {scope : Scope} {own : List (Str × Nat)} (h : AC X elt tg iter scope own ρ A fun d A' => ∃ A'', Ext A'' A' ∧ k d A'') : AC X elt tg iter scope own ρ A k := fun σ H s Q hq => h σ H s Q fun v H' d A' t r l ⟨A'', x, q⟩ => hq v H' d A'' t r (l.sub x) q
theorem ac_lc {tg iter elt : Expr} {is : List Nat} {scope : Scope} {own : List (Str × Nat)} (hsub : ∀ i ∈ is, i ∈ own.map (·.2))
    (hi : AI X tg iter ρ A fun A1 G n f => n ≤ sizeLine ∧ ∃ Pv : Addr → Nat → List D → AH → Prop, (∀ p, A1 p = none → Pv p 0 [] (aupd A1 p (.lst []))) ∧ (∀ p i acc A', i ≤ n → Pv p i acc A' → G A' ∧ acc.length = i) ∧
      (∀ p i acc A', i < n → Pv p i acc A' → ∃ ρ2, ∀ (s : Shared) (H : Hp) (C : Addr) (cl : List (Str × Addr)) (fp : List Addr), AG (X.blk s H scope (compEnvC scope cl C X.env) fp) tg is (wipeR ρ (own.map (·.2))) (f i) ρ2 ∧
        AE (X.blk s H scope (compEnvC scope cl C X.env) fp) elt ρ2 A' fun d A2 => A2 p = some (.lst acc) ∧ Pv p (i + 1) (acc ++ [d]) (aupd A2 p (.lst (acc ++ [d])))) ∧
      ∀ p acc A', Pv p n acc A' → k (.ref p) A') : AC X elt tg iter scope own ρ A k := fun σ H s Q q => by
  refine hi σ H s _ fun J H1 A1 G n f t1 l1 wk ⟨hn, Pv, h0, hG, hb, hd⟩ D hD => ?_
  refine ⟨fun i m H' => ∃ acc A', TS H1 H' ∧ Rel X.K A' H' ∧ m = n - i ∧ i ≤ n ∧ Pv D i acc A', ⟨n, [], _, TS.new hD, (l1.newL hD .nil).2, by simp, Nat.zero_le _, h0 D (l1.none hD)⟩, ?_⟩
  rintro i m H2 ⟨acc, A2, t2, l2, rfl, hle, p2⟩
  obtain ⟨g2, ea⟩ := hG D i acc A2 hle p2
  by_cases hlt : i < n
  · refine .inr ⟨wk.go i H2 A2 hlt t2 l2 g2, fun H' => ∃ acc A', TS H1 H' ∧ Rel X.K A' H' ∧ Pv D (i + 1) acc A', ?_, ?_⟩
    · rintro H' ⟨acc, A', t', l', p'⟩
      exact ⟨n - (i + 1), by omega, acc, A', t', l', rfl, hlt, p'⟩
    · intro x H3 y3
      obtain ⟨t3, l3, r3⟩ := wk.yl i H2 A2 x H3 hlt t2 l2 g2 y3
      obtain ⟨ρ2, hb⟩ := hb D i acc A2 hlt p2
      intro s1 H01 C1 cl1 fp1
      have sW : Sr X.K (wipeR ρ (own.map (·.2))) A2 (L2.wipe σ (own.map (·.2))) H3 := (s.mono ((t1.trans t2).trans t3) l3).wipe _
      refine (hb s1 H01 C1 cl1 fp1).1 x _ H3 A2 sW r3 _ fun σ4 hl4 hj4 s4 => ?_
      refine ⟨(wipe_eq hl4 fun j hj => hj4 j fun z => hj (hsub j z)).trans (wipe_wipe _), ?_⟩
      unfold tYes
      dsimp only
      rw [if_pos rfl]
      intro s2 H02 C2 cl2 fp2
      refine (hb s2 H02 C2 cl2 fp2).2 σ4 H3 s4 _ fun v H4 d A4 t4 r4 l4 hp4 => ?_
      obtain ⟨vs, e1, e2⟩ := l4.lst hp4.1
      obtain ⟨t5, l5⟩ := l4.putL e1 (e2.append (.one r4))
      refine ⟨vs, e1, ?_, acc ++ [d], _, ((t2.trans t3).trans t4).trans t5, l5, hp4.2⟩
      rw [e2.length, ea]
      omega
  · have e : i = n := by omega
    subst e
    exact .inl ⟨wk.st H2 A2 t2 l2 g2, q (.ref D) H2 (.ref D) A2 (t1.trans t2) (.ref D) l2 (hd D acc A2 p2)⟩
/-- elements out of many: a new list -/
def AN (X : Cx) (e : Expr) (ρ : Ro) (A : AH) {α : Type} (enc : α → D) (Q : α → Prop) : Prop := ∀ k : AK, (∀ a, Q a → k (enc a) A) → AE X e ρ A k
theorem ac_lcN {α : Type} {enc : α → D} {Q : Nat → α → Prop} {tg iter elt : Expr} {is : List Nat} {scope : Scope} {own : List (Str × Nat)} {n : Nat} (hsub : ∀ i ∈ is, i ∈ own.map (·.2))
    (hi : AI X tg iter ρ A fun A1 G n' f => n' = n ∧ Ext A A1 ∧ n ≤ sizeLine ∧ (∀ A', Ext A1 A' → G A') ∧
      ∀ i, i < n → ∃ ρ2, ∀ (s : Shared) (H : Hp) (C : Addr) (cl : List (Str × Addr)) (fp : List Addr), AG (X.blk s H scope (compEnvC scope cl C X.env) fp) tg is (wipeR ρ (own.map (·.2))) (f i) ρ2 ∧ ∀ A', Ext A1 A' → AN (X.blk s H scope (compEnvC scope cl C X.env) fp) elt ρ2 A' enc (Q i))
    (q : ∀ as : List α, as.length = n → (∀ i a, as[i]? = some a → Q i a) → ∀ p, A p = none → k (.ref p) (aupd A p (.lst (as.map enc)))) : AC X elt tg iter scope own ρ A k := by
  refine AC.weak (ac_lc (is := is) hsub ?_)
  intro σ H s R hR
  refine hi σ H s R fun J H' A1 G n' f t l wk ⟨en, ex, hn, hG, hb⟩ => hR J H' A1 G n' f t l wk ?_
  subst en
  refine ⟨hn, fun p i acc A' => A1 p = none ∧ A' = aupd A1 p (.lst acc) ∧ ∃ as : List α, acc = as.map enc ∧ as.length = i ∧ ∀ j a, as[j]? = some a → Q j a, fun p hp => ⟨hp, rfl, [], rfl, rfl, fun j a h => by simp at h⟩, ?_, ?_, ?_⟩
  · rintro p i acc A' _ ⟨hp, rfl, as, rfl, hl, _⟩
    exact ⟨hG _ (Ext.new hp), by rw [List.length_map]; exact hl⟩
  · rintro p i acc A' hlt ⟨hp, rfl, as, rfl, hl, hq⟩
    obtain ⟨ρ2, hb⟩ := hb i hlt
    refine ⟨ρ2, fun s H C cl fp => ⟨(hb s H C cl fp).1, (hb s H C cl fp).2 _ (Ext.new hp) _ fun a ha => ⟨aupd_same, hp, ?_, as ++ [a], ?_, ?_, ?_⟩⟩⟩
    · rw [aupd_aupd]
    · rw [List.map_append]; rfl
    · rw [List.length_append, hl]; rfl
    · intro j b hj
      by_cases hlt' : j < as.length
      · rw [List.getElem?_append_left hlt'] at hj
        exact hq j b hj
      · rw [List.getElem?_append_right (by omega)] at hj
        have hj0 : j - as.length = 0 := by
          by_cases h0 : j - as.length = 0
          · exact h0
          · rw [List.getElem?_eq_none (by show [a].length ≤ _; simp; omega)] at hj
            exact nomatch hj
        rw [hj0] at hj
        have : a = b := Option.some.inj hj
        subst this
        have : j = i := by omega
        rw [this]
        exact ha
  · rintro p acc A' ⟨hp, rfl, as, rfl, hl, hq⟩
    exact ⟨aupd A p (.lst (as.map enc)), ex.upd p _, q as hl hq p (ex.none hp)⟩
/-- pure elements: a new list -/
theorem ac_lcP {tg iter elt : Expr} {is : List Nat} {scope : Scope} {own : List (Str × Nat)} {g : Nat → D} {n : Nat} (hsub : ∀ i ∈ is, i ∈ own.map (·.2))
    (hi : AI X tg iter ρ A fun A1 G n' f => n' = n ∧ Ext A A1 ∧ n ≤ sizeLine ∧ (∀ A', Ext A1 A' → G A') ∧
      ∀ i, i < n → ∃ ρ2, ∀ (s : Shared) (H : Hp) (C : Addr) (cl : List (Str × Addr)) (fp : List Addr), AG (X.blk s H scope (compEnvC scope cl C X.env) fp) tg is (wipeR ρ (own.map (·.2))) (f i) ρ2 ∧ ∀ A', Ext A1 A' → AV (X.blk s H scope (compEnvC scope cl C X.env) fp) elt ρ2 A' (g i))
    (q : ∀ p, A p = none → k (.ref p) (aupd A p (.lst ((List.range n).map g)))) : AC X elt tg iter scope own ρ A k := by
  refine ac_lcN (is := is) (enc := id) (Q := fun i d => d = g i) (n := n) hsub ?_ fun as hl hq p hp => ?_
  · intro σ H s R hR
    refine hi σ H s R fun J H' A1 G n' f t l wk ⟨en, ex, hn, hG, hb⟩ => hR J H' A1 G n' f t l wk ⟨en, ex, hn, hG, fun i h => ?_⟩
    obtain ⟨ρ2, hb⟩ := hb i h
    exact ⟨ρ2, fun s H C cl fp => ⟨(hb s H C cl fp).1, fun A' x k hk => ((hb s H C cl fp).2 A' x).ae (hk _ rfl)⟩⟩
  · have e : as.map id = (List.range n).map g := by
      rw [List.map_id]
      apply List.ext_getElem?
      intro i
      rw [List.getElem?_map]
      by_cases hi : i < n
      · rw [List.getElem?_eq_getElem (by omega), List.getElem?_range hi]
        exact congrArg some (hq i _ (List.getElem?_eq_getElem (by omega)))
      · rw [List.getElem?_eq_none (by omega), List.getElem?_eq_none (by simp; omega)]
        rfl
    rw [e]
    exact q p hp
theorem al_lc {tg iter elt : Expr} {is : List Nat} {scope : Scope} {own : List (Str × Nat)} {g : Nat → D} {n : Nat} (hc : X.calm = true) (hN : X.N.Nodup) (ok : BlkOk X.N X.env.scope scope own) (hsub : ∀ i ∈ is, i ∈ own.map (·.2))
    (hi : AI X tg iter ρ A fun A1 G n' f => n' = n ∧ Ext A A1 ∧ n ≤ sizeLine ∧ (∀ A', Ext A1 A' → G A') ∧
      ∀ i, i < n → ∃ ρ2, ∀ (s : Shared) (H : Hp) (C : Addr) (cl : List (Str × Addr)) (fp : List Addr), AG (X.blk s H scope (compEnvC scope cl C X.env) fp) tg is (wipeR ρ (own.map (·.2))) (f i) ρ2 ∧ ∀ A', Ext A1 A' → AV (X.blk s H scope (compEnvC scope cl C X.env) fp) elt ρ2 A' (g i))
    (hs : ∀ x, foldedSetIterable iter X.env x = pure x := by intro _; rfl) : AL X (.ListComp elt [⟨tg, iter, [], 0⟩] scope pos) ρ A ((List.range n).map g) := fun k q => (ac_lcP (is := is) (own := own) hsub hi q).ae hc hN ok hs
end
end C7
namespace C7
open PySem PySem.Spec PyProof.Rows L2

/-! ### contracts -/
/-- arguments, what is known, what is wanted of the answer, what is wanted of a refusal's class -/
abbrev Ct := List D → AH → AK → (Value → AH → Prop) → Prop
def spOf (K : Frag) (ct : Ct) : Sp := fun vs H Q E => ∃ ds A k e, Rps K H vs ds ∧ Rel K A H ∧ ct ds A k e ∧ (∀ v H' d A', TS H H' → Rp K H' v d → Rel K A' H' → k d A' → Q v H') ∧ (∀ c H' A', TS H H' → Rel K A' H' → e c A' → E c none H')
structure Fn (P : Program) (w : World) (K : Frag) (mg : Str → Option Value) (base : Heap) (x : Str) (k : Nat) (ct : Ct) : Prop where
  ex : ∃ f fd ps, FnOk P w K mg base (L2N.CX P w) k f fd ps (spOf K ct) ∧ mg x = some (.ref f) ∧ PySem.W.keepIn K (.ref f) = true ∧ Binds K fd ps []
theorem Fn.up {P : Program} {w : World} {K : Frag} {mg : Str → Option Value} {base : Heap} {x : Str} {j k : Nat} {ct : Ct} (F : Fn P w K mg base x j ct) (h : j ≤ k) : Fn P w K mg base x k ct :=
  let ⟨f, fd, ps, F, r⟩ := F.ex; ⟨f, fd, ps, F.mono h, r⟩
/-- an expression that may raise -/
def AEx (X : Cx) (W : WX) (e : Expr) (ρ : Ro) (A : AH) (xc : Value → AH → Prop) (k : AK) : Prop := ∀ (σ : L2.St) (H : Hp), Sr X.K ρ A σ H → ∀ Q : VK, (∀ v H' d A', TS H H' → Rp X.K H' v d → Rel X.K A' H' → k d A' → Q v H') →
  (∀ c H' A', TS H H' → Rel X.K A' H' → xc c A' → W c none σ H') → TM X e σ H Q
theorem passN {X : Cx} : Passes (L2N.CX X.prog X.w) X E0 := fun _ _ _ _ _ _ _ h => by
  obtain ⟨_, _, _, _, _, _, _, _, _, _, _, _, z⟩ := h
  exact z.elim
section
variable {X : Cx} {W : WX} {ρ : Ro} {A : AH} {E : AEnds} {e a b : Expr} {es : List Expr} {pos p0 : Pos} {d x y : D} {k : AK} {n : Str} {ct : Ct} {lv : Nat} {ds : List D} {rest : List Stmt} {xc : Value → AH → Prop}
theorem ae_call (F : Fn X.prog X.w X.K X.mg X.base n lv ct) (hr : Room lv X.A) (hg : Gl X n) (h : AEs X (e :: es) ρ A fun ds A1 => ct ds A1 k fun _ _ => False)
    (hdb : (n == ("__debug__" : Str)) = false := by decide) (he : starEach (e :: es) X.env = (false, eval e X.env) :: starEach es X.env := by rfl) (hpl : (backTo pos (starEach es X.env)).any (·.1) = false := by rfl) :
    AE X (.Call (.Name n p0) (e :: es) [] pos) ρ A k := fun σ H s Q q => by
  obtain ⟨f, fd, ps, F, hm, hk, hb⟩ := F.ex
  refine tm_of (pe_call (E := E0) (dvs := []) F hr hg hm hk hb .nil passN (pa_tm (e :: es)) hdb he hpl) ?_
  refine h σ H s _ fun vs H1 ds A1 t1 r1 l1 h1 => ?_
  refine ⟨ds, A1, k, fun _ _ => False, by rw [List.append_nil]; exact r1, l1, h1, fun v H' d A' t2 r2 l2 k2 => q v H' d A' (t1.trans t2) r2 l2 k2, fun _ _ _ _ _ z => z⟩
theorem ae_call0 (F : Fn X.prog X.w X.K X.mg X.base n lv ct) (hr : Room lv X.A) (hg : Gl X n) (h : ct [] A k fun _ _ => False)
    (hdb : (n == ("__debug__" : Str)) = false := by decide) : AE X (.Call (.Name n p0) [] [] pos) ρ A k := fun σ H s Q q => by
  obtain ⟨f, fd, ps, F, hm, hk, hb⟩ := F.ex
  refine tm_of (pe_call0 (E := E0) (dvs := []) F hr hg hm hk hb .nil passN hdb) ?_
  exact ⟨[], A, k, fun _ _ => False, .nil, s.hp, h, q, fun _ _ _ _ _ z => z⟩
theorem av_call (F : Fn X.prog X.w X.K X.mg X.base n lv ct) (hr : Room lv X.A) (hg : Gl X n) (ha : AVs X (e :: es) ρ A ds) (h : ct ds A (fun d' A' => d' = d ∧ Ext A A') fun _ _ => False)
    (hdb : (n == ("__debug__" : Str)) = false := by decide) (he : starEach (e :: es) X.env = (false, eval e X.env) :: starEach es X.env := by rfl) (hpl : (backTo pos (starEach es X.env)).any (·.1) = false := by rfl) :
    AV X (.Call (.Name n p0) (e :: es) [] pos) ρ A d := AE.av (ae_call F hr hg (ha.aes h) hdb he hpl)
theorem aex_call (F : Fn X.prog X.w X.K X.mg X.base n lv ct) (tk : L2N.Takes X W) (hr : Room lv X.A) (hg : Gl X n) (h : AEs X (e :: es) ρ A fun ds A1 => ct ds A1 k xc)
    (hdb : (n == ("__debug__" : Str)) = false := by decide) (he : starEach (e :: es) X.env = (false, eval e X.env) :: starEach es X.env := by rfl) (hpl : (backTo pos (starEach es X.env)).any (·.1) = false := by rfl) :
    AEx X W (.Call (.Name n p0) (e :: es) [] pos) ρ A xc k := fun σ H s Q q hx => by
  obtain ⟨f, fd, ps, F, hm, hk, hb⟩ := F.ex
  refine tm_of (pe_callS (E := WE W) F hr hg hm hk hb (fun σ => L2N.passAt tk σ) (pa_tm (e :: es)) hdb he hpl) ?_
  refine h σ H s _ fun vs H1 ds A1 t1 r1 l1 h1 => ?_
  exact ⟨ds, A1, k, xc, r1, l1, h1, fun v H' d A' t2 r2 l2 k2 => q v H' d A' (t1.trans t2) r2 l2 k2, fun c H' A' t2 l2 k2 => hx c H' A' (t1.trans t2) l2 k2⟩
theorem AE.aex (h : AE X e ρ A k) : AEx X W e ρ A xc k := fun σ H s Q q _ => h σ H s Q q
theorem a1_retx (h : AEx X W e ρ A (fun c A' => E.xc c ρ A') E.rt) : A1 X W (.Return (some e) pos) ρ A E := fun σ H s D q => tm1_of (ps_ret (pe_tm e)) (h σ H s _ (fun v H' d A' t r l kd => q.rt d A' v H' t l r kd) fun c H' A' t l kd => q.xc c ρ A' σ H' t (s.mono t l) kd)
theorem a1_exprx (h : AEx X W e ρ A (fun c A' => E.xc c ρ A') fun _ A' => E.nx ρ A') (hs : swapsWith e none pos.line X.env = pure false := by rfl) : A1 X W (.Expr e pos) ρ A E := fun σ H s D q =>
  tm1_of (ps_expr (pe_tm e) hs) (h σ H s _ (fun v H' d A' t r l kd => q.nx ρ A' σ H' t (s.mono t l) kd) fun c H' A' t l kd => q.xc c ρ A' σ H' t (s.mono t l) kd)
theorem a1_setx {i : Nat} {pos' : Pos} (hN : X.N.Nodup) (hi : X.N[i]? = some n) (hx : Loc X.env.scope n) (h : AEx X W e ρ A (fun c A' => E.xc c ρ A') fun d A' => E.nx (ρ.set i (some d)) A') (hs : swapsWith e (some (.Name n pos')) pos.line X.env = pure false := by rfl)
    (hf : X.fn n = true ∨ X.env.scope.names.lookup n = some .local := by first | exact .inl rfl | exact .inr rfl | assumption) : A1 X W (.Assign [.Name n pos'] e pos) ρ A E := fun σ H s D q =>
  tm1_of (ps_set (i := i) hN hi hx (pe_tm e) hs hf) (h σ H s _ (fun v H' d A' t r l kd => q.nx _ A' _ H' t ((s.mono t l).set i r) kd) fun c H' A' t l kd => q.xc c ρ A' σ H' t (s.mono t l) kd)
/-- raise X('..') -/
theorem a1_raise {C : Addr} {m : Str} {j : Nat} {p2 : Pos} {B newId initId : String} {bmB : List Value} (hc : X.calm = true) (tk : L2N.Takes X W) (F : ExcBaseFacts B newId initId bmB) (q : PySem.W.excIn X.K C bmB newId = true) (gC : X.mg n = some (.ref C)) (kC : PySem.W.keepIn X.K (.ref C) = true) (r : Raises X (.ref C)) (hg : Gl X n)
    (h : E.xc (.ref C) ρ A) (hdb : (n == ("__debug__" : Str)) = false := by decide) : A1 X W (.Raise (some (.Call (.Name n p0) [.Constant (.str m) j p2] [] pos)) none pos') ρ A E := fun σ H s D qq =>
  tm1_of (L2N.ps_raise hc tk (L2N.pmk_own F q gC kC r hg hdb)) (qq.xc _ ρ A σ H (TS.refl H) s h)
end

/-! ### a def -/
section
variable {P : Program} {w : World} {K : Frag} {mg : Str → Option Value} {base : Heap}
theorem okN {x qual : Str} {st : Stmt} {f : Addr} {fd : FuncData} {N ps : List Str} {k : Nat} {sp : Sp} (F : Fun K x qual st f fd) (S : FnScope N ps (defScope st)) (len : ∀ vs H Q E, sp vs H Q E → vs.length = ps.length)
    (hbody : ∀ (cdv : Value) (A : Around) (outer : List Env) (s : Shared) (H : Hp) (vs : List V) (Q : VK) (E : XK), Room k (A.deeper (envOfC qual (defScope st) s.heap.objs.size f cdv)) → sp vs H Q E →
      ∃ t, PSs (cxOf (L2N.CX P w) P w K mg base N qual (defScope st) f cdv A outer s H E) (defBody st) t ∧ t { nx := fun _ H' => Q .non H', rt := Q } (L2.start N vs) H) : FnOk P w K mg base (L2N.CX P w) (k + 1) f fd ps sp := by
  obtain ⟨oc, od, kV, doc, pm, an, cdv, ct, osl, rfl, lk, hcd⟩ := F.ex
  exact fn_of lk hcd S len fun A outer s H vs Q E hr hsp => hbody cdv A outer s H vs Q E hr hsp
/-- the body of a def keeps a contract -/
abbrev BodyOk (P : Program) (w : World) (K : Frag) (mg : Str → Option Value) (base : Heap) (N : List Str) (qual : Str) (st : Stmt) (f : Addr) (k : Nat) (ct : Ct) : Prop :=
  ∀ (cdv : Value) (A0 : Around) (outer : List Env) (s : Shared) (H : Hp) (E : XK),
      Room k (cxOf (L2N.CX P w) P w K mg base N qual (defScope st) f cdv A0 outer s H E).A → PassesOwn (model P w) (cxOf (L2N.CX P w) P w K mg base N qual (defScope st) f cdv A0 outer s H E).A (cxOf (L2N.CX P w) P w K mg base N qual (defScope st) f cdv A0 outer s H E).env (cxOf (L2N.CX P w) P w K mg base N qual (defScope st) f cdv A0 outer s H E).xe →
      L2N.Takes (cxOf (L2N.CX P w) P w K mg base N qual (defScope st) f cdv A0 outer s H E) (fun cls d _ H => E cls d H) →
      ∀ ds A kk ee, ct ds A kk ee → AS (cxOf (L2N.CX P w) P w K mg base N qual (defScope st) f cdv A0 outer s H E) (fun cls d _ H => E cls d H) (defBody st) (ds.map some ++ List.replicate (N.length - ds.length) none) A { nx := fun _ A' => kk .non A', rt := kk, xc := fun c _ A' => ee c A' }
/-- THE RULE for a def -/
theorem fnok_mk {x qual : Str} {st : Stmt} {f : Addr} {fd : FuncData} {N ps : List Str} {k : Nat} {ct : Ct} (F : Fun K x qual st f fd) (S : FnScope N ps (defScope st))
    (len : ∀ ds A k e, ct ds A k e → ds.length = ps.length) (body : BodyOk P w K mg base N qual st f k ct) : FnOk P w K mg base (L2N.CX P w) (k + 1) f fd ps (spOf K ct) := by
  refine okN F S (fun vs H Q E h => ?_) (fun cdv A0 outer s H vs Q E hr h => ?_)
  · obtain ⟨ds, A, kk, ee, r, _, c, _, _⟩ := h
    rw [r.length]; exact len ds A kk ee c
  · obtain ⟨ds, A, kk, ee, r, l, c, h1, h2⟩ := h
    refine ⟨_, pss_tm _, ?_⟩
    refine body cdv A0 outer s H E hr (passes_of rfl) (L2N.takes_of rfl rfl rfl rfl) ds A kk ee c (L2.start N vs) H ⟨?_, fun i d e => ?_, l⟩ _ ⟨?_, ?_, ?_, ?_, ?_⟩
    · simp [L2.start, r.length]
    · have hl : vs.length = ds.length := r.length
      by_cases hi : i < ds.length
      · rw [List.getElem?_append_left (by simpa using hi), List.getElem?_map] at e
        cases q : ds[i]? with
        | none => rw [q] at e; cases e
        | some d' =>
          rw [q] at e
          cases e
          obtain ⟨v, e1, e2⟩ := r.get q
          refine ⟨v, ?_, e2⟩
          unfold L2.start
          rw [List.getElem?_append_left (by simpa [hl] using hi), List.getElem?_map, e1]
          rfl
      · rw [List.getElem?_append_right (by simpa using hi), List.getElem?_replicate] at e
        split at e <;> cases e
    · intro ρ' A' σ' H' t s' hk
      exact h1 .non H' .non A' t .non s'.hp hk
    · intro d A' v H' t l' r' hk
      exact h1 v H' d A' t r' l' hk
    · intro _ _ _ _ _ _ z; exact z.elim
    · intro _ _ _ _ _ _ z; exact z.elim
    · intro c ρ' A' σ' H' t s' hk
      exact h2 c H' A' t s'.hp hk
/-- what the top has left of a def -/
structure DefF (K : Frag) (mg : Str → Option Value) (x : Str) (st : Stmt) (ps : List Str) : Prop where
  ex : ∃ f fd, Fun K x x st f fd ∧ mg x = some (.ref f) ∧ Binds K fd ps []
theorem fn_mk {x : Str} {st : Stmt} {N ps : List Str} {k : Nat} {ct : Ct} (d : DefF K mg x st ps) (S : FnScope N ps (defScope st))
    (len : ∀ ds A k e, ct ds A k e → ds.length = ps.length) (body : ∀ f, BodyOk P w K mg base N x st f k ct) : Fn P w K mg base x (k + 1) ct := by
  obtain ⟨f, fd, F, hm, hb⟩ := d.ex
  exact ⟨f, fd, ps, fnok_mk F S len (body f), hm, F.kp, hb⟩
theorem def_mk {h : Heap} {x : Str} {st : Stmt} {f : Addr} {ps : List Str} {oc : Value} {od an : Option Addr} {osl : Array (Option Value)} {kV doc pm cdv ct : Value} (X : K.In h) (G : h.Ns mainGlobals mg) (a : PySem.W.nsIn K mainGlobals x = some (some (.ref f)))
    (l : K.lookup f = some ⟨oc, od, .func (PySem.W.fnOf x x (defArgs st) (defBody st) (defScope st) .none kV doc pm an cdv ct), osl⟩) (c : PySem.W.codeIn K cdv x = true) (k : PySem.W.keepIn K (.ref f) = true)
    (hb : ∀ (kV doc pm : Value) (an : Option Addr) (cdv ct : Value) (us : List Value), us.length = ps.length → bindArgs (PySem.W.fnOf x x (defArgs st) (defBody st) (defScope st) .none kV doc pm an cdv ct) ⟨us, []⟩ = pure (ps.zip us)) : DefF K mg x st ps :=
  have F := fun_mk (st := st) l c k
  ⟨f, _, F, PySem.W.mg_of X G a, F.binds hb⟩
/-- the law's own def -/
structure LawF (K : Frag) (mg : Str → Option Value) (st : Stmt) (n : Str) : Prop where
  ex : ∃ f fd, Fun K "law" "law" st f fd ∧ mg "law" = some (.ref f) ∧ ∀ (s : Shared) (v : Value), BindsTo s fd ⟨[v], []⟩ [(n, v)]
theorem law_mk {h : Heap} {st : Stmt} {f : Addr} {n : Str} {oc : Value} {od an : Option Addr} {osl : Array (Option Value)} {kV doc pm cdv ct : Value} (X : K.In h) (G : h.Ns mainGlobals mg) (a : PySem.W.nsIn K mainGlobals "law" = some (some (.ref f)))
    (l : K.lookup f = some ⟨oc, od, .func (PySem.W.fnOf "law" "law" (defArgs st) (defBody st) (defScope st) .none kV doc pm an cdv ct), osl⟩) (c : PySem.W.codeIn K cdv "law" = true) (k : PySem.W.keepIn K (.ref f) = true)
    (hb : ∀ (kV doc pm : Value) (an : Option Addr) (cdv ct : Value) (v : Value), bindArgs (PySem.W.fnOf "law" "law" (defArgs st) (defBody st) (defScope st) .none kV doc pm an cdv ct) ⟨[v], []⟩ = pure [(n, v)]) : LawF K mg st n :=
  ⟨f, _, fun_mk (st := st) l c k, PySem.W.mg_of X G a, fun _ v => .of_eq (hb _ _ _ _ _ _ v)⟩
/-- an own class of refusals, under ValueError -/
structure ExcF (K : Frag) (mg : Str → Option Value) (x : Str) (C : Addr) : Prop where
  g : mg x = some (.ref C)
  x : PySem.W.excIn K C [.type "ValueError", .type "Exception", .type "BaseException", .type "object"] "ValueError.__new__" = true
  k : PySem.W.keepIn K (.ref C) = true
  b : PySem.W.subIn K (.ref C) (.type "BaseException") = some true
  t : PySem.W.typeIn K (.ref C) = some (.type "type")
  d : PySem.W.hasDictIn K C = true
theorem kit_ref {C : Addr} {t : Value} {b : Bool} {x : Str} (e : ExcF K mg x C) (hs : PySem.W.subIn K t (.ref C) = some b) (hb : b = true ∨ (t == .ref C) = false) : PySem.W.kitOne K t (.ref C) = some b := by
  unfold PySem.W.kitOne
  split
  · rename_i h
    rcases hb with rfl | hb
    · rfl
    · rw [hb] at h; cases h
  · obtain ⟨cd, hc, _⟩ := PySem.W.any_some e.d
    show (if ((PySem.W.clsIn K C).isSome && PySem.W.typeIn K (.ref C) == some (.type "type")) = true then PySem.W.subIn K t (.ref C) else none) = some b
    rw [if_pos (by rw [hc, e.t]; rfl)]
    exact hs
theorem kit_type {C : Addr} {T : String} {b : Bool} (hm : PySem.W.kitMeta T = true) (hs : PySem.W.subIn K (.ref C) (.type T) = some b) : PySem.W.kitOne K (.ref C) (.type T) = some b := by
  unfold PySem.W.kitOne
  rw [if_neg (by intro h; cases h)]
  show (if PySem.W.kitMeta T = true then PySem.W.subIn K (.ref C) (.type T) else none) = some b
  rw [if_pos hm]
  exact hs
theorem exm_own {C : Addr} {cls : Value} {b : Bool} {x : Str} (e : ExcF K mg x C) (hs : PySem.W.subIn K cls (.ref C) = some b) : PySem.W.exmOne K cls (.ref C) = some b := PySem.W.exm_ref e.b e.d e.t hs
theorem a1_raiseF {X : Cx} {W : WX} {ρ : Ro} {A : AH} {E : AEnds} {x m : Str} {C : Addr} {j : Nat} {p0 p2 pos pos' : Pos} (e : ExcF X.K X.mg x C) (hc : X.calm = true) (tk : L2N.Takes X W) (hg : Gl X x) (h : E.xc (.ref C) ρ A) (hdb : (x == ("__debug__" : Str)) = false := by decide) :
    A1 X W (.Raise (some (.Call (.Name x p0) [.Constant (.str m) j p2] [] pos)) none pos') ρ A E := a1_raise hc tk PySem.F.excBase_ValueError e.x e.g e.k (raises_own e.b e.t) hg h hdb
/-- the law's contract: of any script, True -/
def ctLaw : Ct := fun ds A k _ => ∃ ns : List Int, ds = [.cl (ns.map D.int)] ∧ ns.length ≤ 63 ∧ ∀ A', k (.bl true) A'
theorem vals_rps {H : Hp} : ∀ ns : List Int, Rps K H (ns.map V.int) (ns.map D.int)
  | [] => .nil
  | n :: ns => .cons (.int n) (vals_rps ns)
theorem walk_c7 {l : PySem.W.OpenLaw} {k : Nat} {q : Program} {loose : List Str} {XP : (Str → Option Value) → Heap → Prop} {YP : World → Heap → Prop} {d : DefRec} {K : Params → PySem.W.Frag} {x : Str}
    (hn : l.most = some 63) (hdf : d.params.defaults = []) (hnm : d.name = "law") (hr : Room k callerA)
    (hY : ∀ (w : World) (h : Heap), YP w h → (K w.params).In h)
    (F : ∀ (w : World) (mg : Str → Option Value) (h : Heap), (K w.params).In h → h.Ns mainGlobals mg → ∃ st, LawF (K w.params) mg st x ∧
        ∀ (base : Heap) (f : Addr) (fd : FuncData), Fun (K w.params) "law" "law" st f fd → FnOk l.prog w (K w.params) mg base (L2N.CX l.prog w) k f fd [x] (spOf (K w.params) ctLaw)) :
    PySem.W.WalkO q loose XP YP l.row.toRowW d [] (fun f vs => PySem.call f vs) := by
  refine walk_of (K := K) (x := x) (CX := fun w => L2N.CX l.prog w) (sp := fun w => spOf (K w.params) ctLaw) hn (by decide) hdf hr hY ?_ ?_ ?_
  · intro w mg fa h KX G hfa
    obtain ⟨st, ⟨f, fd, FF, hm, hb⟩, hF⟩ := F w mg h KX G
    rw [hnm] at hfa
    have e := hfa.symm.trans hm
    cases e
    exact ⟨fd, hb, fun base _ _ => hF base fa fd FF⟩
  · intro w H a ns hl hO hS
    refine ⟨[.cl (ns.map D.int)], fun _ => none, fun d _ => d = .bl true, fun _ _ => False, ?_, fun _ _ z => (nomatch z), ⟨ns, rfl, hl, fun _ => rfl⟩, fun v H' d A' _ r _ q => by rw [q] at r; exact r.bl_of, fun _ _ _ _ _ z => z⟩
    refine .one (.cl (vs := ns.map V.int) ?_ (vals_rps ns))
    rcases hS with (h | h) | h
    · rcases hO a with z | ⟨o, xs, z⟩
      · rw [h] at z; cases z
      · rw [h] at z; cases z
    · exact .inl h
    · exact .inr h
  · intro w H s e s' hx
    obtain ⟨_, _, _, _, _, _, _, _, _, _, _, _, z⟩ := hx
    exact z
end

/-! ### built-ins -/
section
variable {X : Cx} {W : WX} {ρ : Ro} {A : AH} {e a b : Expr} {es : List Expr} {pos p0 : Pos} {d x y : D} {k : AK} {ds : List D} {i j : Int}
theorem rps1 {K : Frag} {H : Hp} {vs : List V} {d : D} (h : Rps K H vs [d]) : ∃ v, vs = [v] ∧ Rp K H v d := by cases h with | cons a b => cases b; exact ⟨_, rfl, a⟩
theorem rps2 {K : Frag} {H : Hp} {vs : List V} {d d' : D} (h : Rps K H vs [d, d']) : ∃ v v', vs = [v, v'] ∧ Rp K H v d ∧ Rp K H v' d' := by
  cases h with
  | cons a b => cases b with | cons b c => cases c; exact ⟨_, _, rfl, a, b⟩
theorem av_abs (hg : Gl X "abs") (hm : X.mg "abs" = none) (ha : AV X a ρ A (.int i)) (hs : starEach [a] X.env = [(false, eval a X.env)] := by rfl) : AV X (.Call (.Name "abs" p0) [a] [] pos) ρ A (.int (if i < 0 then -i else i)) :=
  av_callB call_abs hg hm (by decide +kernel) (avs_cons ha avs_nil hs) (fun vs H r l Q q => by
    obtain ⟨v, rfl, r1⟩ := rps1 r
    rw [r1.int_of]
    exact ⟨i, rfl, q _ H (TS.refl H) (.int _) l⟩) (he := hs) (hpl := rfl)
theorem av_max2 (hc : X.calm = true) (hg : Gl X "max") (hm : X.mg "max" = none) (ha : AVs X [a, b] ρ A [.int i, .int j]) (hs : starEach [a, b] X.env = (false, eval a X.env) :: starEach [b] X.env := by rfl) (hpl : (backTo pos (starEach [b] X.env)).any (·.1) = false := by rfl) : AV X (.Call (.Name "max" p0) [a, b] [] pos) ρ A (.int (if j > i then j else i)) :=
  av_callB (call_max2 hc) hg hm (by decide +kernel) ha (fun vs H r l Q q => by
    obtain ⟨v, v', rfl, r1, r2⟩ := rps2 r
    rw [r1.int_of, r2.int_of]
    exact ⟨i, j, rfl, q _ H (TS.refl H) (.int _) l⟩) (he := hs) (hpl := hpl)
theorem av_min2 (hc : X.calm = true) (hg : Gl X "min") (hm : X.mg "min" = none) (ha : AVs X [a, b] ρ A [.int i, .int j]) (hs : starEach [a, b] X.env = (false, eval a X.env) :: starEach [b] X.env := by rfl) (hpl : (backTo pos (starEach [b] X.env)).any (·.1) = false := by rfl) : AV X (.Call (.Name "min" p0) [a, b] [] pos) ρ A (.int (if j < i then j else i)) :=
  av_callB (call_min2 hc) hg hm (by decide +kernel) ha (fun vs H r l Q q => by
    obtain ⟨v, v', rfl, r1, r2⟩ := rps2 r
    rw [r1.int_of, r2.int_of]
    exact ⟨i, j, rfl, q _ H (TS.refl H) (.int _) l⟩) (he := hs) (hpl := hpl)
theorem ae_len (hg : Gl X "len") (hm : X.mg "len" = none) (h : AE X a ρ A fun d A1 => (∃ ds, IsL A1 d ds ∧ k (.int (ds.length : Nat)) A1) ∨ (∃ ds, d = .tup ds ∧ k (.int (ds.length : Nat)) A1)) (hs : starEach [a] X.env = [(false, eval a X.env)] := by rfl) : AE X (.Call (.Name "len" p0) [a] [] pos) ρ A k :=
  ae_callB call_len_seq hg hm PySem.boot_len (aes_cons (h.mono fun d A1 hd => aes_nil (fun vs H r l Q q => by
    obtain ⟨v, rfl, r1⟩ := rps1 r
    rcases hd with ⟨ds, hl, hk⟩ | ⟨ds, rfl, hk⟩
    · obtain ⟨p, ws, rfl, h1, h2⟩ := hl.sq r1 l
      exact ⟨p, ws, rfl, .inl h1, q _ H _ A1 (TS.refl H) (by rw [h2.length]; exact .int _) l hk⟩
    · obtain ⟨p, ws, rfl, h1, h2⟩ := r1.tup_of
      exact ⟨p, ws, rfl, .inr h1, q _ H _ A1 (TS.refl H) (by rw [h2.length]; exact .int _) l hk⟩)) hs) (he := hs) (hpl := rfl)
theorem av_lenL (hg : Gl X "len") (hm : X.mg "len" = none) (h : AV X a ρ A x) (hl : IsL A x ds) (hs : starEach [a] X.env = [(false, eval a X.env)] := by rfl) : AV X (.Call (.Name "len" p0) [a] [] pos) ρ A (.int (ds.length : Nat)) :=
  AE.av (ae_len hg hm (h.ae (.inl ⟨ds, hl, rfl, Ext.refl A⟩)) hs)
theorem av_lenT (hg : Gl X "len") (hm : X.mg "len" = none) (h : AV X a ρ A (.tup ds)) (hs : starEach [a] X.env = [(false, eval a X.env)] := by rfl) : AV X (.Call (.Name "len" p0) [a] [] pos) ρ A (.int (ds.length : Nat)) :=
  AE.av (ae_len hg hm (h.ae (.inr ⟨ds, rfl, rfl, Ext.refl A⟩)) hs)
theorem av_divmod (hg : Gl X "divmod") (hm : X.mg "divmod" = none) (ha : AVs X [a, b] ρ A [.int i, .int j]) (h : CDivP i j) (hs : starEach [a, b] X.env = (false, eval a X.env) :: starEach [b] X.env := by rfl) (hpl : (backTo pos (starEach [b] X.env)).any (·.1) = false := by rfl) : AV X (.Call (.Name "divmod" p0) [a, b] [] pos) ρ A (.tup [.int (i / j), .int (i % j)]) :=
  av_callB call_divmodW hg hm (by decide +kernel) ha (fun vs H r l Q q => by
    obtain ⟨v, v', rfl, r1, r2⟩ := rps2 r
    rw [r1.int_of, r2.int_of]
    exact ⟨i, j, rfl, h, fun p hp => q _ _ (TS.new hp) (tup_ok (.cons (.int _) (.cons (.int _) .nil)) hp) (l.newT hp)⟩) (he := hs) (hpl := hpl)
theorem ae_list (hg : Gl X "list") (hm : X.mg "list" = none) (h : AE X a ρ A fun d A1 => (∃ ds, IsL A1 d ds ∧ ∀ q, A1 q = none → k (.ref q) (aupd A1 q (.lst ds))) ∨ (∃ ds, d = .tup ds ∧ ∀ q, A1 q = none → k (.ref q) (aupd A1 q (.lst ds)))) (hs : starEach [a] X.env = [(false, eval a X.env)] := by rfl) : AE X (.Call (.Name "list" p0) [a] [] pos) ρ A k :=
  ae_callTy call_list_of hg hm (by decide +kernel) (aes_cons (h.mono fun d A1 hd => aes_nil (fun vs H r l Q q => by
    obtain ⟨v, rfl, r1⟩ := rps1 r
    rcases hd with ⟨ds, hl, hk⟩ | ⟨ds, rfl, hk⟩
    · obtain ⟨p, ws, rfl, h1, h2⟩ := hl.sq r1 l
      exact ⟨p, ws, rfl, .inl h1, fun z hz => q _ _ _ _ (TS.new hz) (.ref z) (l.newL hz h2).2 (hk z (l.none hz))⟩
    · obtain ⟨p, ws, rfl, h1, h2⟩ := r1.tup_of
      exact ⟨p, ws, rfl, .inr h1, fun z hz => q _ _ _ _ (TS.new hz) (.ref z) (l.newL hz h2).2 (hk z (l.none hz))⟩)) hs) (he := hs) (hpl := rfl)
theorem al_listL (hg : Gl X "list") (hm : X.mg "list" = none) (h : AV X a ρ A x) (hl : IsL A x ds) (hs : starEach [a] X.env = [(false, eval a X.env)] := by rfl) : AL X (.Call (.Name "list" p0) [a] [] pos) ρ A ds := fun k q =>
  ae_list hg hm (h.ae (.inl ⟨ds, hl, q⟩)) hs
theorem ae_tupleL (hg : Gl X "tuple") (hm : X.mg "tuple" = none) (h : AE X a ρ A fun d A1 => ∃ ds, IsL A1 d ds ∧ k (.tup ds) A1) (hs : starEach [a] X.env = [(false, eval a X.env)] := by rfl) : AE X (.Call (.Name "tuple" p0) [a] [] pos) ρ A k :=
  ae_callTy call_tuple_of hg hm (by decide +kernel) (aes_cons (h.mono fun d A1 hd => aes_nil (fun vs H r l Q q => by
    obtain ⟨v, rfl, r1⟩ := rps1 r
    obtain ⟨ds, hl, hk⟩ := hd
    obtain ⟨p, ws, rfl, h1, h2⟩ := hl.sq r1 l
    exact ⟨p, ws, rfl, .inl ⟨h1, fun z hz => q _ _ _ _ (TS.new hz) (tup_ok h2 hz) (l.newT hz) hk⟩⟩)) hs) (he := hs) (hpl := rfl)
theorem ae_sum (hc : X.calm = true) (hg : Gl X "sum") (hm : X.mg "sum" = none) (h : AE X a ρ A fun d A1 => ∃ (ns : List Int), IsL A1 d (ns.map D.int) ∧ k (.int ns.sum) A1) (hs : starEach [a] X.env = [(false, eval a X.env)] := by rfl) : AE X (.Call (.Name "sum" p0) [a] [] pos) ρ A k :=
  ae_callB (cr_sum hc) hg hm (by decide +kernel) (aes_cons (h.mono fun d A1 hd => aes_nil (fun vs H r l Q q => by
    obtain ⟨v, rfl, r1⟩ := rps1 r
    obtain ⟨ns, hl, hk⟩ := hd
    obtain ⟨p, ws, rfl, h1, h2⟩ := hl.sq r1 l
    exact ⟨p, ns, rfl, by rw [← h2.ints]; exact h1, q _ H _ A1 (TS.refl H) (.int _) l hk⟩)) hs) (he := hs) (hpl := rfl)
theorem ae_all (hc : X.calm = true) (hg : Gl X "all") (hm : X.mg "all" = none) (h : AE X a ρ A fun d A1 => ∃ (bs : List Bool), IsL A1 d (bs.map D.bl) ∧ k (.bl (bs.all id)) A1) (hs : starEach [a] X.env = [(false, eval a X.env)] := by rfl) : AE X (.Call (.Name "all" p0) [a] [] pos) ρ A k :=
  ae_callB (cr_all hc) hg hm (by decide +kernel) (aes_cons (h.mono fun d A1 hd => aes_nil (fun vs H r l Q q => by
    obtain ⟨v, rfl, r1⟩ := rps1 r
    obtain ⟨ns, hl, hk⟩ := hd
    obtain ⟨p, ws, rfl, h1, h2⟩ := hl.sq r1 l
    exact ⟨p, ns, rfl, by rw [← h2.bls]; exact h1, q _ H _ A1 (TS.refl H) (.bl _) l hk⟩)) hs) (he := hs) (hpl := rfl)
theorem ae_any (hc : X.calm = true) (hg : Gl X "any") (hm : X.mg "any" = none) (h : AE X a ρ A fun d A1 => ∃ (bs : List Bool), IsL A1 d (bs.map D.bl) ∧ k (.bl (bs.any id)) A1) (hs : starEach [a] X.env = [(false, eval a X.env)] := by rfl) : AE X (.Call (.Name "any" p0) [a] [] pos) ρ A k :=
  ae_callB (cr_any hc) hg hm (by decide +kernel) (aes_cons (h.mono fun d A1 hd => aes_nil (fun vs H r l Q q => by
    obtain ⟨v, rfl, r1⟩ := rps1 r
    obtain ⟨ns, hl, hk⟩ := hd
    obtain ⟨p, ws, rfl, h1, h2⟩ := hl.sq r1 l
    exact ⟨p, ns, rfl, by rw [← h2.bls]; exact h1, q _ H _ A1 (TS.refl H) (.bl _) l hk⟩)) hs) (he := hs) (hpl := rfl)
theorem av_intB {bb : Bool} (hg : Gl X "int") (hm : X.mg "int" = none) (h : AV X a ρ A (.bl bb)) (hs : starEach [a] X.env = [(false, eval a X.env)] := by rfl) : AV X (.Call (.Name "int" p0) [a] [] pos) ρ A (.int (if bb then 1 else 0)) :=
  AE.av (ae_callTy call_int1 hg hm (by decide +kernel) (aes_cons (h.ae (aes_nil (fun vs H r l Q q => by
    obtain ⟨v, rfl, r1⟩ := rps1 r
    rw [r1.bl_of]
    exact .inr ⟨bb, rfl, q _ H _ A (TS.refl H) (.int _) l ⟨rfl, Ext.refl A⟩⟩))) hs) (he := hs) (hpl := rfl))
/-- a built-in class, as a value -/
theorem av_ty {n : Str} {U : String} (hg : Gl X n) (hm : X.mg n = none) (hv : bootBuiltins n = some (.type U)) (hn : n ≠ "__name__" := by decide) (hd : (n == ("__debug__" : Str)) = false := by decide) : AV X (.Name n pos) ρ A (.ty U) :=
  av_bltn hg hm hv (v := .ty U) rfl (fun _ => .ty U) hn hd
/-- isinstance -/
inductive TyD (A : AH) : D → String → Prop where
  | non : TyD A .non "NoneType"
  | bl (b : Bool) : TyD A (.bl b) "bool"
  | int (i : Int) : TyD A (.int i) "int"
  | str (x : Str) : TyD A (.str x) "str"
  | tup (ds : List D) : TyD A (.tup ds) "tuple"
  | lst {x : D} {ds : List D} (h : IsL A x ds) : TyD A x "list"
theorem TyD.tyx {K : Frag} {H : Hp} {T : String} {v : V} (t : TyD A d T) (r : Rp K H v d) (l : Rel K A H) : TyX K H v (.type T) := by
  cases t with
  | non => rw [r.non_of]; exact .base .non
  | bl b => rw [r.bl_of]; exact .base (.bl b)
  | int i => rw [r.int_of]; exact .base (.int i)
  | str x => rw [r.str_of]; exact .base (.str x)
  | tup ds =>
    obtain ⟨p, vs, rfl, h1, _⟩ := r.tup_of
    rcases h1 with (h | ⟨o, h⟩) | ⟨o, its, n, h, hc, _⟩
    · exact .base (.tup h)
    · exact .fTuple h
    · exact .kTuple h hc
  | lst h =>
    rcases h with ⟨p, rfl, h⟩ | rfl | rfl
    · rw [r.ref_of]
      obtain ⟨vs, e, _⟩ := l.lst h
      exact .base (.lst e)
    · obtain ⟨p, vs, rfl, h1, _⟩ := r.cl_of
      rcases h1 with ⟨o, h⟩ | ⟨o, its, n, h, hc, _⟩
      · exact .base (.frz h)
      · exact .kList h hc
    · obtain ⟨p, o, vs, rfl, h1, _⟩ := r.fz_of
      exact .base (.frz h1)
theorem av_isi {T U : String} {bb : Bool} (hg : Gl X "isinstance") (hm : X.mg "isinstance" = none) (ha : AVs X [a, b] ρ A [d, .ty U]) (ht : TyD A d T) (hk : kitB T U = some bb) (hs : starEach [a, b] X.env = (false, eval a X.env) :: starEach [b] X.env := by rfl) (hpl : (backTo pos (starEach [b] X.env)).any (·.1) = false := by rfl) :
    AV X (.Call (.Name "isinstance" p0) [a, b] [] pos) ρ A (.bl bb) :=
  av_callB call_isi hg hm (by decide +kernel) ha (fun vs H r l Q q => by
    obtain ⟨v, v', rfl, r1, r2⟩ := rps2 r
    rw [r2.ty_of]
    exact ⟨v, .ty U, .type T, .type U, bb, rfl, .ty U, ht.tyx r1 l, kit_ty hk, q _ H (TS.refl H) (.bl _) l⟩) (he := hs) (hpl := hpl)

/-! ### methods of lists -/
variable {name : Str} {o : Expr} {apos cpos : Pos} {p : Addr}
theorem tyL {K : Frag} {H : Hp} {vs : List V} (h : H p = some (.lst vs)) : tyV K "list" (.ref p) H := .inl ⟨rfl, vs, SqL.of h⟩
theorem ae_append (h : AE X o ρ A fun x A1 => ∃ p, x = .ref p ∧ (∃ ds0, A1 p = some (.lst ds0)) ∧ AE X e ρ A1 fun d A2 => ∃ ds, A2 p = some (.lst ds) ∧ ds.length < sizeLine ∧ k .non (aupd A2 p (.lst (ds ++ [d]))))
    (hbase : attributeBase o "append" X.env (eval o X.env) = eval o X.env := by rfl) (hfew : ((backTo cpos (starEach [e] X.env)).all (fun x => !x.1) && (backToKw cpos (keywordEach [] X.env)).all (fun x => x.1.isSome)
      && decide (([e] : List Expr).length + ([] : List Keyword).length + (if ([] : List Keyword).isEmpty then 0 else 1) < 30)) = true := by rfl)
    (hline : (apos.endLine == cpos.line) = true := by rfl) (hs : starEach [e] X.env = (false, eval e X.env) :: starEach [] X.env := by rfl) (hplain : (backTo cpos (starEach [] X.env)).any (·.1) = false := by rfl) :
    AE X (.Call (.Attribute o "append" apos) [e] [] cpos) ρ A k := fun σ H s Q q =>
  tm_of (pe_bm PySem.F.plainAttrs_list PySem.F.slot_list_append PySem.F.type_list_append mt_append (pe_tm o) (pa_cons (pe_tm e) pa_nil hs) hbase hfew hline hs hplain) (h σ H s _ fun v H1 x A1 t1 r1 l1 ⟨p, e1, ⟨ds0, e0⟩, h1⟩ => by
    subst e1
    rw [r1.ref_of]
    obtain ⟨vs0, e2, _⟩ := l1.lst e0
    refine ⟨tyL e2, h1 σ H1 (s.mono t1 l1) _ fun u H2 d A2 t2 r2 l2 ⟨ds, e3, hz, k2⟩ => ?_⟩
    obtain ⟨vs, e4, r4⟩ := l2.lst e3
    obtain ⟨t5, l5⟩ := l2.putL e4 (r4.append (.one r2))
    exact ⟨p, vs, u, rfl, rfl, e4, by rw [r4.length]; exact hz, q _ _ .non _ ((t1.trans t2).trans t5) .non l5 k2⟩)
theorem ae_bm0L {r : V → List V → Hp → VK → Prop} {id : String} {f : List D → D × List D} (slot : Slot "list" name id) (hty : typeOf (.builtin id) = pure (.type "method_descriptor")) (hm : MtR X id r)
    (hr : ∀ K H p vs ds Q, Rps K H vs ds → H p = some (.lst vs) → (∀ v vs', Rp K H v (f ds).1 → Rps K H vs' (f ds).2 → Q v (upd H p (.lst vs'))) → r (.ref p) [] H Q)
    (h : AE X o ρ A fun x A1 => ∃ p ds, x = .ref p ∧ A1 p = some (.lst ds) ∧ k (f ds).1 (aupd A1 p (.lst (f ds).2)))
    (hbase : attributeBase o name X.env (eval o X.env) = eval o X.env := by rfl) (hline : (apos.endLine == cpos.line) = true := by rfl) : AE X (.Call (.Attribute o name apos) [] [] cpos) ρ A k := fun σ H s Q q =>
  tm_of (pe_bm0 PySem.F.plainAttrs_list slot hty hm (pe_tm o) hbase hline) (h σ H s _ fun v H1 x A1 t1 r1 l1 ⟨p, ds, e1, e0, h1⟩ => by
    subst e1
    rw [r1.ref_of]
    obtain ⟨vs, e2, r2⟩ := l1.lst e0
    refine ⟨tyL e2, hr X.K H1 p vs ds Q r2 e2 fun v vs' hv hvs => ?_⟩
    obtain ⟨t5, l5⟩ := l1.putL (A := A1) e2 hvs
    exact q _ _ _ _ (t1.trans t5) (hv.mono t5) l5 h1)
theorem ae_clear (h : AE X o ρ A fun x A1 => ∃ p ds, x = .ref p ∧ A1 p = some (.lst ds) ∧ k .non (aupd A1 p (.lst [])))
    (hbase : attributeBase o "clear" X.env (eval o X.env) = eval o X.env := by rfl) (hline : (apos.endLine == cpos.line) = true := by rfl) : AE X (.Call (.Attribute o "clear" apos) [] [] cpos) ρ A k :=
  ae_bm0L (f := fun _ => (.non, [])) PySem.F.slot_list_clear PySem.F.type_list_clear mt_clear (fun K H p vs ds Q r e q => ⟨p, vs, rfl, rfl, e, q .non [] .non .nil⟩) h hbase hline
theorem ae_pop (h : AE X o ρ A fun x A1 => ∃ p ds d, x = .ref p ∧ A1 p = some (.lst (ds ++ [d])) ∧ k d (aupd A1 p (.lst ds)))
    (hbase : attributeBase o "pop" X.env (eval o X.env) = eval o X.env := by rfl) (hline : (apos.endLine == cpos.line) = true := by rfl) : AE X (.Call (.Attribute o "pop" apos) [] [] cpos) ρ A k := fun σ H s Q q =>
  tm_of (pe_bm0 PySem.F.plainAttrs_list PySem.F.slot_list_pop PySem.F.type_list_pop mt_pop (pe_tm o) hbase hline) (h σ H s _ fun v H1 x A1 t1 r1 l1 ⟨p, ds, d, e1, e0, h1⟩ => by
    subst e1
    rw [r1.ref_of]
    obtain ⟨vs, e2, r2⟩ := l1.lst e0
    have hl : vs.length = ds.length + 1 := by rw [r2.length]; simp
    obtain ⟨v, g1, g2⟩ := r2.get (i := ds.length) (d := d) (by simp)
    have rd := r2.dropLast
    rw [List.dropLast_concat] at rd
    obtain ⟨t5, l5⟩ := l1.putL (A := A1) e2 rd
    exact ⟨tyL e2, p, vs, v, rfl, rfl, e2, by rw [hl]; exact g1, q _ _ _ _ (t1.trans t5) (g2.mono t5) l5 h1⟩)

/-! ### slices -/
def cutD (xs : List D) (lo hi : Option Int) : List D := (xs.drop (HT.sIx xs.length 0 lo)).take (HT.sIx xs.length xs.length hi - HT.sIx xs.length 0 lo)
theorem Rps.cut {K : Frag} {H : Hp} {vs : List V} (r : Rps K H vs ds) (lo hi : Option Int) : Rps K H (cutV vs lo hi) (cutD ds lo hi) := by
  unfold cutV cutD
  rw [r.length]
  exact (r.drop _).take _
/-- a part of a slice -/
def AO' (X : Cx) (e : Option Expr) (ρ : Ro) (A : AH) (o : Option Int) : Prop := match e, o with
  | none, none => True
  | some e, some i => AV X e ρ A (.int i)
  | _, _ => False
def tmO (X : Cx) : Option Expr → TO
  | none => tNoPart
  | some e => tPart (TM X e)
theorem po_tm (e : Option Expr) : PO X e (tmO X e) := match e with
  | none => po_none
  | some e => po_some (pe_tm e)
theorem AO'.run {e : Option Expr} {o : Option Int} (h : AO' X e ρ A o) {σ : L2.St} {H : Hp} (s : Sr X.K ρ A σ H) {Q : Option Int → Hp → Prop} (q : ∀ H', TS H H' → Rel X.K A H' → Q o H') : tmO X e σ H Q := by
  cases e with
  | none => cases o with
    | none => exact q H (TS.refl H) s.hp
    | some i => exact h.elim
  | some e => cases o with
    | none => exact h.elim
    | some i => exact h σ H s _ fun v H' t r l => ⟨i, r.int_of, q H' t l⟩
theorem ae_slL {lo hi : Option Expr} {lo' hi' : Option Int} {p2 : Pos} (hlo : ∀ A1, Ext A A1 → AO' X lo ρ A1 lo') (hhi : ∀ A1, Ext A A1 → AO' X hi ρ A1 hi') (h : AE X e ρ A fun d A1 => ∃ ds, Ext A A1 ∧ IsL A1 d ds ∧ ∀ q, A1 q = none → k (.ref q) (aupd A1 q (.lst (cutD ds lo' hi')))) :
    AE X (.Subscript e (.Slice lo hi none p2) pos) ρ A k := fun σ H s Q q =>
  tm_of (pe_slice sl_list (pe_tm e) (po_tm lo) (po_tm hi)) (h σ H s _ fun v H1 d A1 t1 r1 l1 ⟨ds, ex, hl, h1⟩ => by
    refine (hlo A1 ex).run (s.mono t1 l1) fun H2 t2 l2 => (hhi A1 ex).run ((s.mono t1 l1).mono t2 l2) fun H3 t3 l3 => ?_
    obtain ⟨p, vs, rfl, g1, g2⟩ := hl.sq ((r1.mono t2).mono t3) l3
    exact ⟨p, vs, rfl, g1, fun z hz => q _ _ _ _ (((t1.trans t2).trans t3).trans (TS.new hz)) (.ref z) (l3.newL hz (g2.cut lo' hi')).2 (h1 z (l3.none hz))⟩)
theorem al_slL {lo hi : Option Expr} {lo' hi' : Option Int} {p2 : Pos} (h : AV X e ρ A x) (hl : IsL A x ds) (hlo : AO' X lo ρ A lo') (hhi : AO' X hi ρ A hi') : AL X (.Subscript e (.Slice lo hi none p2) pos) ρ A (cutD ds lo' hi') := fun k q σ H s Q qq =>
  tm_of (pe_slice sl_list (pe_tm e) (po_tm lo) (po_tm hi)) (h σ H s _ fun v H1 t1 r1 l1 => by
    refine hlo.run (s.mono t1 l1) fun H2 t2 l2 => hhi.run ((s.mono t1 l1).mono t2 l2) fun H3 t3 l3 => ?_
    obtain ⟨p, vs, rfl, g1, g2⟩ := hl.sq ((r1.mono t2).mono t3) l3
    exact ⟨p, vs, rfl, g1, fun z hz => qq _ _ _ _ (((t1.trans t2).trans t3).trans (TS.new hz)) (.ref z) (l3.newL hz (g2.cut lo' hi')).2 (q z (l3.none hz))⟩)
theorem ae_revL {kk : Nat} {p1 p2 p3 : Pos} (h : AE X e ρ A fun d A1 => ∃ ds, IsL A1 d ds ∧ ∀ q, A1 q = none → k (.ref q) (aupd A1 q (.lst ds.reverse))) : AE X (.Subscript e (.Slice none none (some (.UnaryOp .USub (.Constant (.int 1) kk p1) p2)) p3) pos) ρ A k := fun σ H s Q q =>
  tm_of (pe_revL (pe_tm e)) (h σ H s _ fun v H1 d A1 t1 r1 l1 ⟨ds, hl, h1⟩ => by
    obtain ⟨p, vs, rfl, g1, g2⟩ := hl.sq r1 l1
    exact ⟨p, vs, rfl, g1, fun z hz => q _ _ _ _ (t1.trans (TS.new hz)) (.ref z) (l1.newL hz g2.reverse).2 (h1 z (l1.none hz))⟩)
/-- xs + ys -/
theorem ae_cat (h : AE X a ρ A fun x A1 => AE X b ρ A1 fun y A2 => ∃ p q xs ys, x = .ref p ∧ y = .ref q ∧ A2 p = some (.lst xs) ∧ A2 q = some (.lst ys) ∧ xs.length + ys.length ≤ sizeLine ∧ ∀ z, A2 z = none → k (.ref z) (aupd A2 z (.lst (xs ++ ys)))) : AE X (.BinOp a .Add b pos) ρ A k :=
  ae_op op_cat (h.mono fun x A1 h1 => h1.mono fun y A2 ⟨p, q, xs, ys, e1, e2, h2, h3, hz, hk⟩ v u H r1 r2 l Q qq => by
    subst e1 e2
    rw [r1.ref_of, r2.ref_of]
    obtain ⟨vs, g1, g2⟩ := l.lst h2
    obtain ⟨ws, g3, g4⟩ := l.lst h3
    exact ⟨p, q, vs, ws, rfl, rfl, g1, g3, by rw [g2.length, g4.length]; exact hz, fun z hz => qq _ _ _ _ (TS.new hz) (.ref z) (l.newL hz (g2.append g4)).2 (hk z (l.none hz))⟩)
end
end C7
namespace C7
open PySem PySem.Spec PyProof.Rows L2

/-! ### sizes -/
theorem bt_log {i : Int} {n : Nat} (h : i.natAbs < 2 ^ n) (h0 : 0 < n) : i.natAbs.log2 < n := PySem.Flt.log2_lt_of h0 h
theorem bt_mul {i j : Int} {a b : Nat} (ha : i.natAbs < 2 ^ a) (hb : j.natAbs < 2 ^ b) : (i * j).natAbs < 2 ^ (a + b) := wide_lt ha hb
theorem bt_add {i j : Int} {a b : Nat} (ha : i.natAbs < 2 ^ a) (hb : j.natAbs < 2 ^ b) : (i + j).natAbs < 2 ^ (max a b + 1) := by
  have h1 : 2 ^ a ≤ 2 ^ max a b := Nat.pow_le_pow_right (by decide) (Nat.le_max_left _ _)
  have h2 : 2 ^ b ≤ 2 ^ max a b := Nat.pow_le_pow_right (by decide) (Nat.le_max_right _ _)
  have h3 := Int.natAbs_add_le i j
  rw [Nat.pow_succ]
  omega
theorem bt_neg {i : Int} {a : Nat} (ha : i.natAbs < 2 ^ a) : (-i).natAbs < 2 ^ a := by rw [Int.natAbs_neg]; exact ha
theorem bt_sub {i j : Int} {a b : Nat} (ha : i.natAbs < 2 ^ a) (hb : j.natAbs < 2 ^ b) : (i - j).natAbs < 2 ^ (max a b + 1) := by
  rw [Int.sub_eq_add_neg]
  exact bt_add ha (bt_neg hb)
theorem bt_le {i : Int} {a b : Nat} (ha : i.natAbs < 2 ^ a) (h : a ≤ b) : i.natAbs < 2 ^ b := Nat.lt_of_lt_of_le ha (Nat.pow_le_pow_right (by decide) h)
theorem bt_mod {i j : Int} {a : Nat} (h0 : 0 < j) (ha : j.natAbs < 2 ^ a) : (i % j).natAbs < 2 ^ a := by
  have h1 := Int.emod_nonneg i (show j ≠ 0 by omega)
  have h2 := Int.emod_lt_of_pos i h0
  omega
theorem bt_div {i j : Int} {a : Nat} (h0 : 0 < j) (ha : i.natAbs < 2 ^ a) : (i / j).natAbs < 2 ^ (a + 1) := by
  have h1 := Int.natAbs_ediv_le_natAbs i j
  have h2 : (2 : Nat) ^ a ≤ 2 ^ (a + 1) := Nat.pow_le_pow_right (by decide) (Nat.le_succ _)
  omega
theorem mulx {i j : Int} {a b : Nat} (ha : i.natAbs < 2 ^ a) (hb : j.natAbs < 2 ^ b) (h : a + b ≤ 134217728) : CMulX i j := mulx_ok ha hb h
theorem divw {i j : Int} {b : Nat} (h : 0 < j) (hb : j.natAbs < 2 ^ b) (h0 : 0 < b) (h9 : b ≤ 9000) : CDivW i j := wide_div h hb h0 h9
theorem divp {i j : Int} (h : 0 < j) (hb : j.natAbs < 2 ^ 9000) : CDivP i j := ⟨h, PyProof.noPylong_of_log2 (bt_log hb (by decide))⟩

/-! ### shares: the rational numbers -/
def sh (q : Rat) : D := .tup [.int q.num, .int (q.den : Int)]
/-- a pair of whole numbers -/
def pr (a b : Int) : D := .tup [.int a, .int b]
structure Sz (m : Nat) (q : Rat) : Prop where
  n : q.num.natAbs < 2 ^ m
  d : q.den < 2 ^ m
theorem Sz.up {m n : Nat} {q : Rat} (h : Sz m q) (l : m ≤ n) : Sz n q :=
  ⟨Nat.lt_of_lt_of_le h.n (Nat.pow_le_pow_right (by decide) l), Nat.lt_of_lt_of_le h.d (Nat.pow_le_pow_right (by decide) l)⟩
theorem rat_eq (q : Rat) : q = (q.num : Rat) / (q.den : Rat) := by
  have h := Rat.num_divInt_den q
  rw [Rat.divInt_eq_div] at h
  exact h.symm.trans (by push_cast; rfl)
theorem den_pos (q : Rat) : (0 : Int) < (q.den : Int) := by have := q.den_pos; omega
theorem num_mul {q : Rat} {N D : Int} (hD : D ≠ 0) (h : q = (N : Rat) / (D : Rat)) : q.num * D = N * q.den := by
  have hq := rat_eq q
  have h1 : (q.den : Rat) ≠ 0 := by
    have := q.den_pos
    exact_mod_cast (show (q.den : Int) ≠ 0 by omega)
  have h2 : (D : Rat) ≠ 0 := by exact_mod_cast hD
  have h3 : (q.num : Rat) * D = N * q.den := by
    have : (q.num : Rat) / q.den = N / D := hq.symm.trans h
    grind
  exact_mod_cast h3
theorem sz_div {q : Rat} {N D : Int} {m : Nat} (hD : D ≠ 0) (h : q = (N : Rat) / (D : Rat)) (hN : N.natAbs < 2 ^ m) (hDm : D.natAbs < 2 ^ m) : Sz m q := by
  have e := num_mul hD h
  have cop := q.reduced
  have d1 : q.den ∣ D.natAbs := by
    have : q.den ∣ q.num.natAbs * D.natAbs := by
      rw [← Int.natAbs_mul, e, Int.natAbs_mul]
      exact Nat.dvd_mul_left _ _
    exact Nat.Coprime.dvd_of_dvd_mul_left cop.symm this
  have hDp : 0 < D.natAbs := by omega
  have l1 := Nat.le_of_dvd hDp d1
  refine ⟨?_, by omega⟩
  by_cases hN0 : N = 0
  · subst hN0
    rw [Int.zero_mul] at e
    have z : q.num = 0 := by
      rcases Int.mul_eq_zero.mp e with z | z
      · exact z
      · exact absurd z hD
    rw [z]
    exact Nat.pow_pos (by decide)
  · have d2 : q.num.natAbs ∣ N.natAbs := by
      have : q.num.natAbs ∣ N.natAbs * q.den := by
        have e' : N.natAbs * q.den = (N * (q.den : Int)).natAbs := by rw [Int.natAbs_mul]; rfl
        rw [e', ← e, Int.natAbs_mul]
        exact Nat.dvd_mul_right _ _
      exact Nat.Coprime.dvd_of_dvd_mul_right cop this
    have l2 := Nat.le_of_dvd (by omega) d2
    omega
theorem Sz.num {m : Nat} {q : Rat} (h : Sz m q) : q.num.natAbs < 2 ^ m := h.n
theorem Sz.den {m : Nat} {q : Rat} (h : Sz m q) : ((q.den : Int)).natAbs < 2 ^ m := by rw [Int.natAbs_natCast]; exact h.d
theorem den_ne (q : Rat) : (q.den : Rat) ≠ 0 := by
  have := q.den_pos
  exact_mod_cast (show (q.den : Int) ≠ 0 by omega)
theorem sz_add {m n : Nat} {p q : Rat} (hp : Sz m p) (hq : Sz n q) : Sz (m + n + 1) (p + q) := by
  have h1 := rat_eq p
  have h2 := rat_eq q
  have h3 := den_ne p
  have h4 := den_ne q
  refine sz_div (N := p.num * q.den + q.num * p.den) (D := (p.den : Int) * q.den) (by have := den_pos p; have := den_pos q; exact Int.ne_of_gt (Int.mul_pos ‹_› ‹_›)) ?_ ?_ ?_
  · have e1 : ((p.num * q.den + q.num * p.den : Int) : Rat) = (p.num : Rat) * (q.den : Rat) + q.num * (p.den : Rat) := by push_cast; rfl
    have e2 : (((p.den : Int) * q.den : Int) : Rat) = (p.den : Rat) * (q.den : Rat) := by push_cast; rfl
    rw [e1, e2]
    grind
  · refine bt_le (bt_add (bt_mul hp.num hq.den) (bt_mul hq.num hp.den)) (by omega)
  · exact bt_le (bt_mul hp.den hq.den) (by omega)
theorem sz_neg {m : Nat} {p : Rat} (hp : Sz m p) : Sz m (-p) := ⟨by rw [Rat.neg_num, Int.natAbs_neg]; exact hp.n, by rw [Rat.neg_den]; exact hp.d⟩
theorem sz_sub {m n : Nat} {p q : Rat} (hp : Sz m p) (hq : Sz n q) : Sz (m + n + 1) (p - q) := by
  rw [Rat.sub_eq_add_neg]
  exact sz_add hp (sz_neg hq)
theorem sz_mul {m n : Nat} {p q : Rat} (hp : Sz m p) (hq : Sz n q) : Sz (m + n) (p * q) := by
  have h1 := rat_eq p
  have h2 := rat_eq q
  have h3 := den_ne p
  have h4 := den_ne q
  refine sz_div (N := p.num * q.num) (D := (p.den : Int) * q.den) (by have := den_pos p; have := den_pos q; exact Int.ne_of_gt (Int.mul_pos ‹_› ‹_›)) ?_ ?_ ?_
  · have e1 : ((p.num * q.num : Int) : Rat) = (p.num : Rat) * (q.num : Rat) := by push_cast; rfl
    have e2 : (((p.den : Int) * q.den : Int) : Rat) = (p.den : Rat) * (q.den : Rat) := by push_cast; rfl
    rw [e1, e2]
    grind
  · exact bt_mul hp.num hq.num
  · exact bt_mul hp.den hq.den
/-- a pair in lowest terms is its own share -/
theorem num_den {q : Rat} {a b : Int} (hb : 0 < b) (hc : a.natAbs.gcd b.natAbs = 1) (h : q = (a : Rat) / (b : Rat)) : q.num = a ∧ (q.den : Int) = b := by
  have e := num_mul (show b ≠ 0 by omega) h
  have d1 : q.den ∣ b.natAbs := by
    have : q.den ∣ q.num.natAbs * b.natAbs := by
      rw [← Int.natAbs_mul, e, Int.natAbs_mul]
      exact Nat.dvd_mul_left _ _
    exact Nat.Coprime.dvd_of_dvd_mul_left q.reduced.symm this
  have d2 : b.natAbs ∣ q.den := by
    have : b.natAbs ∣ a.natAbs * q.den := by
      have e' : a.natAbs * q.den = (a * (q.den : Int)).natAbs := by rw [Int.natAbs_mul]; rfl
      rw [e', ← e, Int.natAbs_mul]
      exact Nat.dvd_mul_left _ _
    exact Nat.Coprime.dvd_of_dvd_mul_left (Nat.Coprime.symm hc) this
  have e3 : q.den = b.natAbs := Nat.dvd_antisymm d1 d2
  have e4 : (q.den : Int) = b := by omega
  refine ⟨?_, e4⟩
  rw [e4] at e
  exact Int.eq_of_mul_eq_mul_right (by omega) e
theorem share_eq {t b : Int} (hb : 0 < b) : D.tup [.int (t / (Nat.gcd t.natAbs b.natAbs : Nat)), .int (b / (Nat.gcd t.natAbs b.natAbs : Nat))] = sh ((t : Rat) / (b : Rat)) := by
  have hbn : 0 < b.natAbs := by omega
  have hg : 0 < Nat.gcd t.natAbs b.natAbs := Nat.gcd_pos_of_pos_right _ hbn
  have hg' : (0 : Int) < (Nat.gcd t.natAbs b.natAbs : Nat) := by omega
  have d1 : ((Nat.gcd t.natAbs b.natAbs : Nat) : Int) ∣ t := Int.ofNat_dvd_left.mpr (Nat.gcd_dvd_left _ _)
  have d2 : ((Nat.gcd t.natAbs b.natAbs : Nat) : Int) ∣ b := Int.ofNat_dvd_left.mpr (Nat.gcd_dvd_right _ _)
  have e1 := Int.ediv_mul_cancel d1
  have e2 := Int.ediv_mul_cancel d2
  have n1 : (t / (Nat.gcd t.natAbs b.natAbs : Nat)).natAbs = t.natAbs / Nat.gcd t.natAbs b.natAbs := by
    rw [Int.natAbs_ediv_of_dvd d1]; rfl
  have n2 : (b / (Nat.gcd t.natAbs b.natAbs : Nat)).natAbs = b.natAbs / Nat.gcd t.natAbs b.natAbs := by
    rw [Int.natAbs_ediv_of_dvd d2]; rfl
  have hpos : 0 < b / (Nat.gcd t.natAbs b.natAbs : Nat) := Int.ediv_pos_of_pos_of_dvd hb (by omega) d2
  have hq : (t : Rat) / (b : Rat) = ((t / (Nat.gcd t.natAbs b.natAbs : Nat) : Int) : Rat) / ((b / (Nat.gcd t.natAbs b.natAbs : Nat) : Int) : Rat) := by
    generalize hG : ((Nat.gcd t.natAbs b.natAbs : Nat) : Int) = g at e1 e2 hpos hg'
    have c1 : (((t / g : Int)) : Rat) * (g : Rat) = (t : Rat) := by exact_mod_cast e1
    have c2 : (((b / g : Int)) : Rat) * (g : Rat) = (b : Rat) := by exact_mod_cast e2
    have z1 : (g : Rat) ≠ 0 := by exact_mod_cast (show g ≠ 0 by omega)
    have z2 : ((b / g : Int) : Rat) ≠ 0 := by exact_mod_cast (show b / g ≠ 0 by omega)
    rw [← c1, ← c2]
    grind
  have hc : (t / (Nat.gcd t.natAbs b.natAbs : Nat)).natAbs.gcd (b / (Nat.gcd t.natAbs b.natAbs : Nat)).natAbs = 1 := by
    rw [n1, n2]
    exact Nat.gcd_div_gcd_div_gcd_of_pos_right hbn
  obtain ⟨h1, h2⟩ := num_den hpos hc hq
  unfold sh
  rw [h1, h2]
end C7
namespace C7
open PySem PySem.Spec PyProof.Rows L2 HotX

/-! ### a list's end, and any(..), while an exception is handled -/
section
variable {prog : Program} {w : World} {A : Around} {E : Value → Shared → Prop} {s : Shared}
theorem list_end_hot {it l x1 : Addr} {i : Nat} {items : Array Value} {Q : Option Value → Shared → Prop} (hot : HotAt A x1 s.heap) (hne : x1 ≠ it)
    (hit : s.heap.IsListIter it l i) (hl : s.heap.IsList l items) (hx : items[i]? = none)
    (hQ : ∀ h', Heap.ExtBut it s.heap h' → Q none { s with heap := h' }) : wpAny (model prog w) A (pyNext (.ref it)) Q E s := by
  obtain ⟨o, ho, hc, hd⟩ := id hit; obtain ⟨ol, hol, _, nl, hdl⟩ := hl; obtain ⟨hh, o1, vs1, h1, d1, c1⟩ := hot
  unfold pyNext
  refine wpAny_bind (wpAny_attempt (wpAny_callSpecial?_slot (name := Str.ofString "__next__") hit.typeIs slot_listiter_next (wpAny_call_entry slot_listiter_next hit.typeIs entry_listiter_next ?_ (args_listiter_next _))))
  show wpAny _ _ (field (.ref it) 0 >>= _) _ _ s; refine wpAny_bind (wpAny_field ho hd (x := .ref l) rfl ?_)
  show wpAny _ _ (if (Value.ref l == Value.none) = true then _ else _) _ _ s; rw [if_neg (show ¬ ((Value.ref l == Value.none) = true) from Bool.false_ne_true)]
  show wpAny _ _ (field (.ref it) 1 >>= _) _ _ s; refine wpAny_bind (wpAny_field ho hd (x := .int i 0) rfl ?_)
  show wpAny _ _ (seqItems? (.ref l) >>= _) _ _ s; refine wpAny_bind (wpAny_seqItems hol hdl ?_); simp only [Int.toNat_natCast, hx]
  refine wpAny_bind (wpAny_rule (wpAny_bind (wpAny_setField ho hd (by simp) ?_))); show wpAny _ _ (newExc (.type "StopIteration") [] >>= _) _ _ _
  refine wpAny_bind ?_; simp only [newExc, newTuple]; refine wpAny_bind (wpAny_newObj_type ?_ (by size_fits))
  refine wpAny_bind (m := firstArgMember _ _) (wpAny_of_eq (a := Value.none) (by first | rfl | (simp only [firstArgMember]; rfl)) ?_); refine wpAny_newObj_type ?_ (by size_fits)
  have g1 : ∀ f, (s.heap.update it f).get? x1 = some o1 := fun f => by rw [Heap.get?_update_other _ _ hne.symm]; exact h1
  refine raiseNew_hot ⟨hh, o1, vs1, Heap.get?_push_of_some _ (Heap.get?_push_of_some _ (g1 _)), d1, c1⟩ (Nat.ne_of_lt (Heap.lt_size (Heap.get?_push_of_some _ (g1 _)))) (Heap.get?_push_size _ rfl) rfl (by first | (simp; done) | (simp; omega) | (simp only [Array.size_append]; simp; omega)) ?_
  refine wpAny_bind (wpAny_isInstance (T := "StopIteration") (b := true) ⟨_, Heap.get?_update_self _ (Heap.get?_push_size _ rfl) rfl, rfl⟩ isSubtype_stop ?_); refine wpAny_pure (hQ _ ?_)
  intro b ob hb e
  have e1 : ∀ g, (s.heap.update it g).get? b = some ob := fun g => by rw [Heap.get?_update_other _ _ (Ne.symm hb)]; exact e
  rw [Heap.get?_update_other _ _ (Nat.ne_of_gt (Heap.lt_size (Heap.get?_push_of_some _ (e1 _))))]
  exact Heap.get?_push_of_some _ (Heap.get?_push_of_some _ (e1 _))
theorem walks_listH (I ax x1 : Addr) (o1 : Obj) (hne : ax ≠ I) (hx : x1 ≠ I) (hot : A.handled = some (.ref x1)) (vs : Array Value) (d1 : o1.data = .fields vs) (c1 : vs[2]? = some .none) (items : Array Value) :
    Walks prog w A I [I, ax, x1] [I] items.size (fun i v => items[i]? = some v) (fun i h => h.IsListIter I ax i ∧ h.IsList ax items ∧ h.get? x1 = some o1) where
  sub := fun b hb => by simp at hb; simp [hb]
  frame := fun _ _ _ st hk => ⟨st.1.at fun o e => hk I (by simp) o e, st.2.1.at fun o e => hk ax (by simp) o e, hk x1 (by simp) o1 st.2.2⟩
  item := fun i s Q E hi st hQ => by
    refine wpAny_pyNext_list_item st.1 st.2.1 (x := items[i]) (by simp [hi]) fun h' hit' hs' => ?_
    exact hQ _ h' s.toks (by simp [hi]) ⟨hit', st.2.1.extBut hs'.extBut hne, hs'.extBut x1 o1 hx st.2.2⟩ fun b o hb e => hs'.extBut b o (fun h => hb (by simp [h])) e
  done := fun s Q E st hQ => list_end_hot ⟨hot, o1, vs, st.2.2, d1, c1⟩ hx st.1 st.2.1 (by simp) fun h' he' => hQ h' s.toks fun b o hb e => he' b o (fun h => hb (by simp [h])) e
  self := fun _ _ _ _ st hQ => wpAny_pyIter_listiter st.1 hQ
end
section
variable {X : Cx}
theorem cr_anyH {a : Addr} {oe : Obj} {pn : List (Addr × Obj)} {cls : Value} {dd : Option Addr} (hz : L2N.Zn cls dd oe) (hf : ∃ vs, oe.data = .fields vs) : CallR (X.suite a ((a, oe) :: pn)) (.builtin "any") (rAny X.K) := by
  intro pins s σ H vs us Q I r h
  obtain ⟨l, bs, rfl, hs, q⟩ := h
  obtain ⟨its, rv, hl, _⟩ := I.list hs
  rw [Vals.ref1 r]
  have hb := rv.bls
  obtain ⟨fv, hfv⟩ := hf
  obtain ⟨hget, _⟩ := I.pin (a, oe) (List.mem_append.mpr (.inl List.mem_cons_self))
  refine call_any_walk (iter_any hl.isList fun s₂ e2 st hne => ?_)
  subst e2
  have hlt : a ≠ s.heap.objs.size := Nat.ne_of_lt (Heap.lt_size hget)
  refine ⟨_, _, _, _, _, _, _, rfl, walks_listH (A := (X.suite a ((a, oe) :: pn)).A.in1) _ l a oe hne hlt rfl fv hfv (hz.2.2 fv hfv) its.toArray, ⟨st.1, st.2, Heap.get?_push_of_some _ hget⟩, truth_bools hb, fun h' tk hk => ?_⟩
  refine ⟨.bl _, H, I.kept fun b o eo => hk b o (fun hmem => ?_) (Heap.get?_push_of_some _ eo), ?_, q⟩
  · rcases List.mem_cons.mp hmem with e1 | hmem
    · exact absurd (e1 ▸ Heap.lt_size eo) (Nat.lt_irrefl _)
    · cases hmem
  · show Value.bool _ = Value.bool _
    rw [← L2.any_range, hb, List.size_toArray, List.length_map]
end

/-! ### try: body, except x as n: suite -/
section
variable {X : Cx} {W : WX} {ρ : Ro} {A : AH} {E : AEnds} {x n : Str} {c : Value} {i : Nat} {body suite : List Stmt} {b₀ : Stmt} {np pos pos' : Pos}
/-- what is wanted of an exception of the body -/
def TryX (X : Cx) (c : Value) (i : Nat) (suite : List Stmt) (E : AEnds) : Value → Ro → AH → Prop := fun cls ρ' A' =>
  ∃ b, PySem.W.exmOne X.K cls c = some b ∧ (b = true → ∀ (a : Addr) (oe : Obj) (pn : List (Addr × Obj)), A' a = none → L2N.Zn cls none oe → (∃ vs, oe.data = .fields vs) →
    AS (X.suite a ((a, oe) :: pn)) (fun _ _ _ _ => False) suite (ρ'.set i (some (.ref a))) A' { nx := fun ρ2 A2 => E.nx (ρ2.set i none) A2, rt := E.rt, bk := fun ρ2 A2 => E.bk (ρ2.set i none) A2, ct := fun ρ2 A2 => E.ct (ρ2.set i none) A2 }) ∧
    (b = false → E.xc cls ρ' A')
theorem a1_try (hs : X.stack = X.env :: X.outer) (hf : X.env.frame = some X.env.locals) (hN : X.N.Nodup) (hi : X.N[i]? = some n) (hln : X.env.kindOf n = some .local) (hc : Names X x c) (tk : L2N.Takes X W)
    (hb : ∀ (W' : WX) (pn : List (Addr × Obj)) (xe : Value → Shared → Prop), L2N.Takes (X.tr pn xe) W' → PassesOwn (model X.prog X.w) X.A X.env xe → AS (X.tr pn xe) W' body ρ A { E with xc := TryX X c i (b₀ :: suite) E }) :
    A1 X W (.Try body [.ExceptHandler (some (.Name x np)) (some n) (b₀ :: suite) pos'] [] [] pos) ρ A E := fun σ H s D q => by
  refine tm1_of (L2N.ps_try_as (c := c) (tb := fun W' D σ H => ∀ (pn : List (Addr × Obj)) (xe : Value → Shared → Prop), L2N.Takes (X.tr pn xe) W' → PassesOwn (model X.prog X.w) X.A X.env xe → TMs (X.tr pn xe) body D σ H)
    (ts := fun a cls d D σ H => ∀ (oe : Obj) (pn : List (Addr × Obj)), L2N.Zn cls d oe → (∃ vs, oe.data = .fields vs) → TMs (X.suite a ((a, oe) :: pn)) (b₀ :: suite) D σ H) hs hf hN hi hln hc tk
    (fun W' pn xe t p => ⟨fun pins s1 σ1 H1 D1 I1 h1 => (h1 pn xe t p).go pins s1 I1⟩) (fun a oe cls d pn z f => ⟨fun pins s1 σ1 H1 D1 I1 h1 => (h1 oe pn z f).go pins s1 I1⟩)) ?_
  intro pn xe t p
  refine hb _ pn xe t p σ H s D ⟨q.nx, q.rt, q.bk, q.ct, ?_⟩
  intro cls ρ' A' σ' H' t' s' ⟨b, e1, h1, h2⟩
  refine ⟨b, e1, fun hb' a ha oe pn z f => ?_, fun hb' => q.xc cls ρ' A' σ' H' t' s' (h2 hb')⟩
  refine h1 hb' a oe pn (s'.hp.none ha) z f _ H' (s'.set i (.ref a)) _ ⟨?_, ?_, ?_, ?_, ?_⟩
  · intro ρ2 A2 σ2 H2 t2 s2 k2
    exact q.nx _ A2 _ H2 (t'.trans t2) (s2.unset i) k2
  · intro d A2 v H2 t2 l2 r2 k2
    exact q.rt d A2 v H2 (t'.trans t2) l2 r2 k2
  · intro ρ2 A2 σ2 H2 t2 s2 k2
    exact q.bk _ A2 _ H2 (t'.trans t2) (s2.unset i) k2
  · intro ρ2 A2 σ2 H2 t2 s2 k2
    exact q.ct _ A2 _ H2 (t'.trans t2) (s2.unset i) k2
  · intro _ _ _ _ _ _ _ z
    exact z.elim
end

/-! ### isinstance of the caught error -/
section
variable {X : Cx} {ρ : Ro} {A : AH} {e a b : Expr} {pos p0 : Pos} {k : AK} {D0 p : Addr} {oe : Obj} {pn : List (Addr × Obj)}
theorem av_isE {c : D} {cv : Value} {bb : Bool} (C : ExcC X.K D0) (hz : L2N.Zn (.ref D0) none oe) (hf : ∃ vs, oe.data = .fields vs) (hg : Gl X "isinstance") (hm : X.mg "isinstance" = none)
    (ha : AVs (X.suite p ((p, oe) :: pn)) [a, b] ρ A [.ref p, c]) (hc : ∀ H v, Rp X.K H v c → ∀ u, RelV v u → u = cv) (hk : PySem.W.kitOne X.K (.ref D0) cv = some bb)
    (hs : starEach [a, b] X.env = (false, eval a X.env) :: starEach [b] X.env := by rfl) (hpl : (backTo pos (starEach [b] X.env)).any (·.1) = false := by rfl) :
    AV (X.suite p ((p, oe) :: pn)) (.Call (.Name "isinstance" p0) [a, b] [] pos) ρ A (.bl bb) :=
  av_callB (call_isE C hz.zc hf) hg hm (by decide +kernel) ha (fun vs H r l Q q => by
    obtain ⟨v, v', rfl, r1, r2⟩ := rps2 r
    rw [r1.ref_of]
    exact ⟨v', cv, bb, rfl, hc H v' r2, hk, q _ H (TS.refl H) (.bl _) l⟩) (he := hs) (hpl := hpl)
theorem ae_anyH {cls : Value} {dd : Option Addr} (hz : L2N.Zn cls dd oe) (hf : ∃ vs, oe.data = .fields vs) (hg : Gl X "any") (hm : X.mg "any" = none) (h : AE (X.suite p ((p, oe) :: pn)) a ρ A fun d A1 => ∃ (bs : List Bool), IsL A1 d (bs.map D.bl) ∧ k (.bl (bs.any id)) A1) (hs : starEach [a] X.env = [(false, eval a X.env)] := by rfl) :
    AE (X.suite p ((p, oe) :: pn)) (.Call (.Name "any" p0) [a] [] pos) ρ A k :=
  ae_callB (cr_anyH hz hf) hg hm (by decide +kernel) (aes_cons (h.mono fun d A1 hd => aes_nil (fun vs H r l Q q => by
    obtain ⟨v, rfl, r1⟩ := rps1 r
    obtain ⟨ns, hl, hk⟩ := hd
    obtain ⟨p, ws, rfl, h1, h2⟩ := hl.sq r1 l
    exact ⟨p, ns, rfl, by rw [← h2.bls]; exact h1, q _ H _ A1 (TS.refl H) (.bl _) l hk⟩)) hs) (he := hs) (hpl := rfl)
end
end C7
namespace C7
open PySem PySem.Spec PyProof.Rows L2
theorem atI_map {α : Type} {f : α → D} {xs : List α} {k : Nat} {x : α} (h : xs[k]? = some x) : atI (xs.map f) (k : Int) = some (f x) := atI_nat (by rw [List.getElem?_map, h]; rfl)
theorem atN {ns : List Int} (k : Nat) (h : k < ns.length) : atI (ns.map D.int) (k : Int) = some (.int (ns.getD k 0)) := by
  refine atI_map ?_
  rw [List.getD_eq_getElem?_getD, List.getElem?_eq_getElem h]
  rfl
theorem atZ {ns : List Int} {i : Int} (h0 : 0 ≤ i) (h : i < ns.length) : atI (ns.map D.int) i = some (.int (ns.getD i.toNat 0)) := by
  obtain ⟨k, rfl⟩ := Int.eq_ofNat_of_zero_le h0
  exact atN k (by omega)
theorem getD_mem {ns : List Int} {k : Nat} {P : Int → Prop} (h : ∀ n ∈ ns, P n) (hk : k < ns.length) : P (ns.getD k 0) := by
  rw [List.getD_eq_getElem?_getD, List.getElem?_eq_getElem hk]
  exact h _ (List.getElem_mem hk)
theorem bt_small {i : Int} (n : Nat) (h0 : -(2 ^ n) < i) (h1 : i < 2 ^ n) : i.natAbs < 2 ^ n := by
  have e : ((2 : Int) ^ n) = ((2 ^ n : Nat) : Int) := by rw [Int.natCast_pow]; rfl
  rw [e] at h0 h1
  omega
theorem cpow {i j : Int} (h0 : 0 ≤ j) (h1 : j ≤ 1000000) (h2 : i.natAbs < 2 ^ 64) : CPow i j := ⟨h0, h1, h2⟩
def cellM (ns : List Int) (k : Int) : Int := ns.getD k.toNat 0
end C7
namespace C7
open PySem PySem.Spec PyProof.Rows L2
theorem bo_ValueError : bootBuiltins "ValueError" = some (.type "ValueError") := by decide +kernel
theorem bo_int : bootBuiltins "int" = some (.type "int") := by decide +kernel
theorem bo_bool : bootBuiltins "bool" = some (.type "bool") := by decide +kernel
theorem bo_tuple : bootBuiltins "tuple" = some (.type "tuple") := by decide +kernel
theorem bo_list : bootBuiltins "list" = some (.type "list") := by decide +kernel
theorem bo_str : bootBuiltins "str" = some (.type "str") := by decide +kernel
theorem kt_int_int : kitB "int" "int" = some true := by decide +kernel
theorem kt_int_bool : kitB "int" "bool" = some false := by decide +kernel
theorem kt_tuple_tuple : kitB "tuple" "tuple" = some true := by decide +kernel
theorem kt_list_list : kitB "list" "list" = some true := by decide +kernel
theorem kt_str_str : kitB "str" "str" = some true := by decide +kernel
theorem kt_list_tuple : kitB "list" "tuple" = some false := by decide +kernel
theorem kt_tuple_list : kitB "tuple" "list" = some false := by decide +kernel
theorem kt_bool_bool : kitB "bool" "bool" = some true := by decide +kernel
theorem kt_int_str : kitB "int" "str" = some false := by decide +kernel
theorem kt_bool_str : kitB "bool" "str" = some false := by decide +kernel
theorem kt_NoneType_str : kitB "NoneType" "str" = some false := by decide +kernel
theorem kt_list_str : kitB "list" "str" = some false := by decide +kernel
theorem kt_tuple_str : kitB "tuple" "str" = some false := by decide +kernel
theorem gcd_step {a b : Int} (ha : 0 ≤ a) (hb : 0 < b) : Nat.gcd b.natAbs (a % b).natAbs = Nat.gcd a.natAbs b.natAbs := by
  rw [Int.natAbs_emod_of_nonneg ha, Nat.gcd_comm a.natAbs, Nat.gcd_rec b.natAbs a.natAbs, Nat.gcd_comm]
theorem gcd_zero {x : Int} (hx : 0 ≤ x) : ((Nat.gcd x.natAbs (0 : Int).natAbs : Nat) : Int) = x := by
  show ((Nat.gcd x.natAbs 0 : Nat) : Int) = x
  rw [Nat.gcd_zero_right]
  omega
theorem neg_div_neg (t b : Int) : (((0 - t : Int)) : Rat) / ((0 - b : Int) : Rat) = (t : Rat) / (b : Rat) := by
  have e1 : ((0 - t : Int) : Rat) = - (t : Rat) := by push_cast; grind
  have e2 : ((0 - b : Int) : Rat) = - (b : Rat) := by push_cast; grind
  rw [e1, e2]
  by_cases h : (b : Rat) = 0
  · rw [h]; grind
  · grind
theorem add_eq (p q : Rat) : ((p.num * (q.den : Int) + q.num * (p.den : Int) : Int) : Rat) / (((p.den : Int) * (q.den : Int) : Int) : Rat) = p + q := by
  have h1 := rat_eq p
  have h2 := rat_eq q
  have h3 := den_ne p
  have h4 := den_ne q
  have e1 : ((p.num * (q.den : Int) + q.num * (p.den : Int) : Int) : Rat) = (p.num : Rat) * (q.den : Rat) + q.num * (p.den : Rat) := by push_cast; rfl
  have e2 : (((p.den : Int) * (q.den : Int) : Int) : Rat) = (p.den : Rat) * (q.den : Rat) := by push_cast; rfl
  rw [e1, e2]
  grind
theorem sub_eq (p q : Rat) : ((p.num * (q.den : Int) - q.num * (p.den : Int) : Int) : Rat) / (((p.den : Int) * (q.den : Int) : Int) : Rat) = p - q := by
  have h1 := rat_eq p
  have h2 := rat_eq q
  have h3 := den_ne p
  have h4 := den_ne q
  have e1 : ((p.num * (q.den : Int) - q.num * (p.den : Int) : Int) : Rat) = (p.num : Rat) * (q.den : Rat) - q.num * (p.den : Rat) := by push_cast; rfl
  have e2 : (((p.den : Int) * (q.den : Int) : Int) : Rat) = (p.den : Rat) * (q.den : Rat) := by push_cast; rfl
  rw [e1, e2]
  grind
theorem mul_eq (p q : Rat) : ((p.num * q.num : Int) : Rat) / (((p.den : Int) * (q.den : Int) : Int) : Rat) = p * q := by
  have h1 := rat_eq p
  have h2 := rat_eq q
  have h3 := den_ne p
  have h4 := den_ne q
  have e1 : ((p.num * q.num : Int) : Rat) = (p.num : Rat) * (q.num : Rat) := by push_cast; rfl
  have e2 : (((p.den : Int) * (q.den : Int) : Int) : Rat) = (p.den : Rat) * (q.den : Rat) := by push_cast; rfl
  rw [e1, e2]
  grind
theorem num_ne {q : Rat} (h : q ≠ 0) : (q.num : Rat) ≠ 0 := fun e => h (by
  have e2 : q.num = 0 := by exact_mod_cast e
  rw [rat_eq q, e2]
  grind)
theorem div_eq (p q : Rat) (hq : q ≠ 0) : ((p.num * (q.den : Int) : Int) : Rat) / (((p.den : Int) * q.num : Int) : Rat) = p / q := by
  have h1 := rat_eq p
  have h2 := rat_eq q
  have h3 := den_ne p
  have h4 := den_ne q
  have h5 := num_ne hq
  have e1 : ((p.num * (q.den : Int) : Int) : Rat) = (p.num : Rat) * (q.den : Rat) := by push_cast; rfl
  have e2 : (((p.den : Int) * q.num : Int) : Rat) = (p.den : Rat) * (q.num : Rat) := by push_cast; rfl
  rw [e1, e2]
  grind
theorem den2 (p q : Rat) : (p.den : Int) * (q.den : Int) ≠ 0 := by have := den_pos p; have := den_pos q; exact Int.ne_of_gt (Int.mul_pos ‹_› ‹_›)
theorem sz_divR {m n : Nat} {p q : Rat} (hp : Sz m p) (hq : Sz n q) (h0 : q ≠ 0) : Sz (m + n) (p / q) := by
  have h0' : q.num ≠ 0 := fun e => num_ne h0 (by rw [e]; rfl)
  refine sz_div (N := p.num * (q.den : Int)) (D := (p.den : Int) * q.num) (Int.mul_ne_zero (by have := den_pos p; omega) h0') (div_eq p q h0).symm ?_ ?_
  · exact bt_mul hp.num hq.den
  · exact bt_mul hp.den hq.num
theorem one_sub (t : Rat) : (1 - t).num = (t.den : Int) - t.num ∧ ((1 - t).den : Int) = (t.den : Int) := by
  refine num_den (den_pos t) ?_ ?_
  · rw [Int.natAbs_natCast]
    have h := t.reduced
    have : Nat.gcd ((t.den : Int) - t.num).natAbs t.den = Nat.gcd t.num.natAbs t.den := by
      have e1 : ((Nat.gcd ((t.den : Int) - t.num).natAbs t.den : Nat) : Int) = ((Int.gcd ((t.den : Int) - t.num) t.den : Nat) : Int) := rfl
      have e2 : Nat.gcd ((t.den : Int) - t.num).natAbs t.den = Int.gcd ((t.den : Int) - t.num) (t.den : Int) := rfl
      rw [e2, Int.gcd_self_sub_left]
      rfl
    rw [this]
    exact h
  · have h1 := rat_eq t
    have h3 := den_ne t
    have e1 : (((t.den : Int) - t.num : Int) : Rat) = (t.den : Rat) - (t.num : Rat) := by push_cast; rfl
    have e2 : ((t.den : Int) : Rat) = (t.den : Rat) := by push_cast; rfl
    rw [e1, e2]
    grind
theorem sh_one_sub (t : Rat) : D.tup [.int ((t.den : Int) - t.num), .int (t.den : Int)] = sh (1 - t) := by
  obtain ⟨a, b⟩ := one_sub t
  unfold sh
  rw [a, b]
theorem sz_one_sub {m : Nat} {t : Rat} (h : Sz m t) : Sz (m + 1) (1 - t) := by
  obtain ⟨a, b⟩ := one_sub t
  have b' : (1 - t).den = t.den := by omega
  refine ⟨?_, ?_⟩
  · rw [a]
    exact bt_le (bt_sub h.den h.num) (by omega)
  · rw [b']
    exact Nat.lt_of_lt_of_le h.d (Nat.pow_le_pow_right (by decide) (by omega))
/-- what lies between, over one bottom -/
theorem between_eq (p q t : Rat) : ((p.num * (q.den : Int) * (t.den : Int) + t.num * (q.num * (p.den : Int) - p.num * (q.den : Int)) : Int) : Rat) / (((p.den : Int) * (q.den : Int) * (t.den : Int) : Int) : Rat) = p + t * (q - p) := by
  have h1 := rat_eq p
  have h2 := rat_eq q
  have h3 := rat_eq t
  have h4 := den_ne p
  have h5 := den_ne q
  have h6 := den_ne t
  have e1 : ((p.num * (q.den : Int) * (t.den : Int) + t.num * (q.num * (p.den : Int) - p.num * (q.den : Int)) : Int) : Rat) = (p.num : Rat) * (q.den : Rat) * (t.den : Rat) + t.num * (q.num * (p.den : Rat) - p.num * (q.den : Rat)) := by push_cast; rfl
  have e2 : (((p.den : Int) * (q.den : Int) * (t.den : Int) : Int) : Rat) = (p.den : Rat) * (q.den : Rat) * (t.den : Rat) := by push_cast; rfl
  rw [e1, e2]
  generalize (p.num : Rat) = pn at *
  generalize (q.num : Rat) = qn at *
  generalize (t.num : Rat) = tn at *
  generalize (p.den : Rat) = pd at *
  generalize (q.den : Rat) = qd at *
  generalize (t.den : Rat) = td at *
  subst h1 h2 h3
  have h7 : pd * qd * td ≠ 0 := by
    intro h
    rcases Rat.mul_eq_zero.mp h with h | h
    · rcases Rat.mul_eq_zero.mp h with h | h
      · exact h4 h
      · exact h5 h
    · exact h6 h
  grind
theorem sz_zero : Sz 1 (0 : Rat) := ⟨by decide, by decide⟩
theorem sz_one : Sz 1 (1 : Rat) := ⟨by decide, by decide⟩
theorem den3 (p q t : Rat) : (p.den : Int) * (q.den : Int) * (t.den : Int) ≠ 0 := Int.mul_ne_zero (den2 p q) (by have := den_pos t; omega)
/-- an own class as a value -/
theorem av_cls {X : Cx} {ρ : Ro} {A : AH} {x : Str} {C : Addr} {pos : Pos} (e : ExcF X.K X.mg x C) (hg : Gl X x) (hd : (x == ("__debug__" : Str)) = false := by decide) : AV X (.Name x pos) ρ A (.ref C) :=
  av_glob hg e.g (v := .ref C) rfl (fun _ => .ref C) hd
theorem cls_of {K : Frag} {C : Addr} : ∀ H v, Rp K H v (.ref C) → ∀ u, RelV v u → u = .ref C := fun H v r u h => by
  rw [r.ref_of] at h; exact h
theorem ty_of {K : Frag} {U : String} : ∀ H v, Rp K H v (.ty U) → ∀ u, RelV v u → u = .type U := fun H v r u h => by
  rw [r.ty_of] at h; exact h
theorem cut_len (xs : List D) (lo hi : Option Int) : (cutD xs lo hi).length ≤ xs.length := by
  unfold cutD
  rw [List.length_take, List.length_drop]
  omega
/-- the block of a for -/
def forBody : Stmt → List Stmt
  | .For _ _ b _ _ => b
  | _ => []
def ifBody : Stmt → List Stmt
  | .If _ b _ _ => b
  | _ => []
theorem cut1D (xs : List D) : cutD xs (some 1) none = xs.drop 1 := by
  unfold cutD
  rw [show HT.sIx xs.length 0 (some 1) = min 1 xs.length from HT.sIx_nat xs.length 0 1, HT.sIx_none]
  cases xs with
  | nil => rfl
  | cons x r =>
    rw [show min 1 (x :: r).length = 1 by rw [List.length_cons]; omega]
    show (List.take ((x :: r).length - 1) r) = r
    rw [List.length_cons, Nat.add_sub_cancel]
    exact List.take_length
end C7
namespace C7
open PySem PySem.Spec PyProof.Rows L2

/-! ### == of data -/
mutual
inductive Py (A : AH) : D → PyData → Prop
  | non : Py A .non .none
  | bl (b : Bool) : Py A (.bl b) (.bool b)
  | int (i : Int) : Py A (.int i) (.int i)
  | str (x : Str) : Py A (.str x) (.str x)
  | tup {ds : List D} {ps : List PyData} : Pys A ds ps → Py A (.tup ds) (.tuple ps)
  | lst {d : D} {ds : List D} {ps : List PyData} : IsL A d ds → Pys A ds ps → Py A d (.list ps)
inductive Pys (A : AH) : List D → List PyData → Prop
  | nil : Pys A [] []
  | cons {d : D} {ds : List D} {p : PyData} {ps : List PyData} : Py A d p → Pys A ds ps → Pys A (d :: ds) (p :: ps)
end
mutual
theorem Py.dp {A : AH} {K : Frag} {H : Hp} (l : Rel K A H) : ∀ {d : D} {p : PyData} {v : V}, Py A d p → Rp K H v d → Dp K H v p
  | _, _, _, .non, r => by rw [r.non_of]; exact .non
  | _, _, _, .bl b, r => by rw [r.bl_of]; exact .bl b
  | _, _, _, .int i, r => by rw [r.int_of]; exact .int i
  | _, _, _, .str x, r => by rw [r.str_of]; exact .str x
  | _, _, _, .tup h, r => by
    obtain ⟨a, vs, rfl, h1, h2⟩ := r.tup_of
    exact .tup h1 (Pys.dp l h h2)
  | _, _, _, .lst hl h, r => by
    obtain ⟨a, vs, rfl, h1, h2⟩ := hl.sq r l
    exact .lst h1 (Pys.dp l h h2)
theorem Pys.dp {A : AH} {K : Frag} {H : Hp} (l : Rel K A H) : ∀ {ds : List D} {ps : List PyData} {vs : List V}, Pys A ds ps → Rps K H vs ds → DpAll K H vs ps
  | _, _, _, .nil, r => by cases r; exact .nil
  | _, _, _, .cons h hs, r => by
    cases r with
    | cons r1 r2 => exact .cons (Py.dp l h r1) (Pys.dp l hs r2)
end
/-- a kind of data that == tells apart -/
structure Enc (α : Type) [DecidableEq α] where
  d : α → D
  p : α → PyData
  py : ∀ A x, Py A (d x) (p x)
  lay : ∀ x, (p x).canLay0 = true
  dep : ∀ x, (p x).depth ≤ 20
  eqv : ∀ x y, PyData.eqv (p x) (p y) = decide (x = y)
def eI : Enc Int where
  d := .int
  p := .int
  py := fun _ i => .int i
  lay := fun _ => rfl
  dep := fun _ => Nat.zero_le _
  eqv := fun x y => by
    show (x == y) = decide (x = y)
    rw [Bool.eq_iff_iff]; simp
def eB : Enc Bool where
  d := .bl
  p := .bool
  py := fun _ i => .bl i
  lay := fun _ => rfl
  dep := fun _ => Nat.zero_le _
  eqv := fun x y => by
    show (x == y) = decide (x = y)
    rw [Bool.eq_iff_iff]; simp
theorem depthAll_le {α : Type} [DecidableEq α] (e : Enc α) : ∀ xs : List α, PyData.depthAll (xs.map e.p) ≤ 20
  | [] => Nat.zero_le _
  | x :: xs => by
    rw [List.map_cons, PyData.depthAll]
    exact Nat.max_le.mpr ⟨e.dep x, depthAll_le e xs⟩
theorem layAll {α : Type} [DecidableEq α] (e : Enc α) : ∀ xs : List α, PyData.canLayAll0 (xs.map e.p) = true
  | [] => rfl
  | x :: xs => by
    rw [List.map_cons, PyData.canLayAll0, e.lay x, layAll e xs]
    rfl
theorem eqvAll {α : Type} [DecidableEq α] (e : Enc α) : ∀ xs ys : List α, PyData.eqvAll (xs.map e.p) (ys.map e.p) = decide (xs = ys)
  | [], [] => rfl
  | [], _ :: _ => rfl
  | _ :: _, [] => rfl
  | x :: xs, y :: ys => by
    rw [List.map_cons, List.map_cons, PyData.eqvAll, e.eqv, eqvAll e xs ys, Bool.eq_iff_iff]
    simp
theorem pysAll {α : Type} [DecidableEq α] (e : Enc α) (A : AH) : ∀ xs : List α, Pys A (xs.map e.d) (xs.map e.p)
  | [] => .nil
  | x :: xs => .cons (e.py A x) (pysAll e A xs)
/-- a tuple of two -/
def eT {α β : Type} [DecidableEq α] [DecidableEq β] (e : Enc α) (f : Enc β) (he : ∀ x, (e.p x).depth ≤ 10) (hf : ∀ x, (f.p x).depth ≤ 10) : Enc (α × β) where
  d := fun x => .tup [e.d x.1, f.d x.2]
  p := fun x => .tuple [e.p x.1, f.p x.2]
  py := fun A x => .tup (.cons (e.py A _) (.cons (f.py A _) .nil))
  lay := fun x => by
    show PyData.canLayAll0 [e.p x.1, f.p x.2] = true
    rw [PyData.canLayAll0, PyData.canLayAll0, PyData.canLayAll0, e.lay, f.lay]
    rfl
  dep := fun x => by
    show PyData.depthAll [e.p x.1, f.p x.2] + 1 ≤ 20
    rw [PyData.depthAll, PyData.depthAll, PyData.depthAll]
    have := he x.1
    have := hf x.2
    omega
  eqv := fun x y => by
    show PyData.eqvAll [e.p x.1, f.p x.2] [e.p y.1, f.p y.2] = _
    rw [PyData.eqvAll, PyData.eqvAll, PyData.eqvAll, e.eqv, f.eqv, Bool.eq_iff_iff]
    simp [Prod.ext_iff]
theorem rat_ext {p q : Rat} (h1 : p.num = q.num) (h2 : p.den = q.den) : p = q := by
  rw [rat_eq p, rat_eq q, h1, h2]
def eR : Enc Rat where
  d := sh
  p := fun q => .tuple [.int q.num, .int (q.den : Int)]
  py := fun A q => .tup (.cons (.int _) (.cons (.int _) .nil))
  lay := fun _ => rfl
  dep := fun _ => by
    show PyData.depthAll [.int _, .int _] + 1 ≤ 20
    simp [PyData.depthAll, PyData.depth]
  eqv := fun x y => by
    show PyData.eqvAll [.int x.num, .int x.den] [.int y.num, .int y.den] = _
    rw [PyData.eqvAll, PyData.eqvAll, PyData.eqvAll]
    show ((x.num == y.num) && (((x.den : Int) == (y.den : Int)) && true)) = _
    rw [Bool.eq_iff_iff]
    simp only [Bool.and_eq_true, beq_iff_eq, decide_eq_true_eq, and_true]
    constructor
    · rintro ⟨a, b⟩; exact rat_ext a (by omega)
    · rintro rfl; exact ⟨rfl, rfl⟩
theorem lt_num (p q : Rat) : decide (p.num * (q.den : Int) < q.num * (p.den : Int)) = decide (p < q) := by
  rw [Bool.eq_iff_iff, decide_eq_true_eq, decide_eq_true_eq]
  exact (Rat.lt_iff p q).symm
/-- a point -/
abbrev Pt := Rat × Rat
def pt (p : Pt) : D := .tup [sh p.1, sh p.2]
theorem dep_eR (q : Rat) : (eR.p q).depth ≤ 10 := by
  show PyData.depthAll [.int _, .int _] + 1 ≤ 10
  simp [PyData.depthAll, PyData.depth]
def eP : Enc Pt := eT eR eR dep_eR dep_eR
theorem eP_d (p : Pt) : eP.d p = pt p := rfl
section
variable {X : Cx} {ρ : Ro} {A : AH} {a b : Expr} {pos : Pos} {d d' : D} {p p' : PyData} {lv : Nat}
theorem shp {p : PyData} (h1 : p.canLay0 = true) (h2 : p.depth ≤ 64) : SeqAt.shaped p = true := by
  unfold SeqAt.shaped
  rw [h1, decide_eq_true h2]
  rfl
/-- ==, != of data -/
theorem av_eqP (hr : Room lv X.A) (ha : AV X a ρ A d) (hb : AV X b ρ A d') (h : Py A d p) (h' : Py A d' p') (s : SeqAt.shaped p = true) (s' : SeqAt.shaped p' = true) : AV X (.Compare a [.Eq] [b] pos) ρ A (.bl (PyData.eqv p p')) :=
  av_cmp (op_eqD hr.units) (nomark _) ha hb fun v u H r1 r2 l Q q => ⟨p, p', h.dp l r1, h'.dp l r2, s, s', q _ H (TS.refl H) (.bl _) l⟩
theorem av_neP (hr : Room lv X.A) (ha : AV X a ρ A d) (hb : AV X b ρ A d') (h : Py A d p) (h' : Py A d' p') (s : SeqAt.shaped p = true) (s' : SeqAt.shaped p' = true) : AV X (.Compare a [.NotEq] [b] pos) ρ A (.bl (!PyData.eqv p p')) :=
  av_cmp (op_neD hr.units) (nomark _) ha hb fun v u H r1 r2 l Q q => ⟨p, p', h.dp l r1, h'.dp l r2, s, s', q _ H (TS.refl H) (.bl _) l⟩
theorem aet_eqP {kt : Bool → AH → Prop} (hr : Room lv X.A) (h : AE X a ρ A fun x A1 => AE X b ρ A1 fun y A2 => ∃ p p', Py A2 x p ∧ Py A2 y p' ∧ SeqAt.shaped p = true ∧ SeqAt.shaped p' = true ∧ kt (PyData.eqv p p') A2) : AET X (.Compare a [.Eq] [b] pos) ρ A kt :=
  aet_cmp (op_eqD hr.units) (nomark _) (h.mono fun x A1 h1 => h1.mono fun y A2 ⟨p, p', h2, h3, s, s', k2⟩ v u H r1 r2 l Q q => ⟨p, p', h2.dp l r1, h3.dp l r2, s, s', q _ H A2 (TS.refl H) l k2⟩)
theorem aet_neP {kt : Bool → AH → Prop} (hr : Room lv X.A) (h : AE X a ρ A fun x A1 => AE X b ρ A1 fun y A2 => ∃ p p', Py A2 x p ∧ Py A2 y p' ∧ SeqAt.shaped p = true ∧ SeqAt.shaped p' = true ∧ kt (!PyData.eqv p p') A2) : AET X (.Compare a [.NotEq] [b] pos) ρ A kt :=
  aet_cmp (op_neD hr.units) (nomark _) (h.mono fun x A1 h1 => h1.mono fun y A2 ⟨p, p', h2, h3, s, s', k2⟩ v u H r1 r2 l Q q => ⟨p, p', h2.dp l r1, h3.dp l r2, s, s', q _ H A2 (TS.refl H) l k2⟩)
theorem ae_cmpE {op : CmpOp} {r : R2} {k : AK} (ho : OpR X (compareOp op) r) (hm : behindInMarks op b = false)
    (h : AE X a ρ A fun x A1 => AE X b ρ A1 fun y A2 => ∀ v u H, Rp X.K H v x → Rp X.K H u y → Rel X.K A2 H → ∀ Q : VK, (∀ z H' d A', TS H H' → Rp X.K H' z d → Rel X.K A' H' → k d A' → Q z H') → r v u H Q) : AE X (.Compare a [op] [b] pos) ρ A k :=
  fun σ H s Q q => tm_of (pe_cmpR ho (pe_tm a) (pe_tm b) hm) (h σ H s _ fun v H1 x A1 t1 r1 l1 h1 => h1 σ H1 (s.mono t1 l1) _ fun u H2 y A2 t2 r2 l2 h2 =>
    h2 v u H2 (r1.mono t2) r2 l2 Q fun z H' d A' t3 r3 l3 q3 => q z H' d A' ((t1.trans t2).trans t3) r3 l3 q3)
theorem ae_eqP {k : AK} (hr : Room lv X.A) (h : AE X a ρ A fun x A1 => AE X b ρ A1 fun y A2 => ∃ p p', Py A2 x p ∧ Py A2 y p' ∧ SeqAt.shaped p = true ∧ SeqAt.shaped p' = true ∧ k (.bl (PyData.eqv p p')) A2) : AE X (.Compare a [.Eq] [b] pos) ρ A k :=
  ae_cmpE (op_eqD hr.units) (nomark _) (h.mono fun x A1 h1 => h1.mono fun y A2 ⟨p, p', h2, h3, s, s', k2⟩ v u H r1 r2 l Q q => ⟨p, p', h2.dp l r1, h3.dp l r2, s, s', q _ H _ A2 (TS.refl H) (.bl _) l k2⟩)
section
variable {α : Type} [DecidableEq α] (e : Enc α) {x y : α}
theorem av_eqE (hr : Room lv X.A) (ha : AV X a ρ A (e.d x)) (hb : AV X b ρ A (e.d y)) : AV X (.Compare a [.Eq] [b] pos) ρ A (.bl (decide (x = y))) := by
  rw [← e.eqv]
  exact av_eqP hr ha hb (e.py A x) (e.py A y) (shp (e.lay x) (Nat.le_trans (e.dep x) (by decide))) (shp (e.lay y) (Nat.le_trans (e.dep y) (by decide)))
theorem av_neE (hr : Room lv X.A) (ha : AV X a ρ A (e.d x)) (hb : AV X b ρ A (e.d y)) : AV X (.Compare a [.NotEq] [b] pos) ρ A (.bl (!decide (x = y))) := by
  rw [← e.eqv]
  exact av_neP hr ha hb (e.py A x) (e.py A y) (shp (e.lay x) (Nat.le_trans (e.dep x) (by decide))) (shp (e.lay y) (Nat.le_trans (e.dep y) (by decide)))
theorem at_eqE (hr : Room lv X.A) (ha : AV X a ρ A (e.d x)) (hb : AV X b ρ A (e.d y)) : AT X (.Compare a [.Eq] [b] pos) ρ A (decide (x = y)) := by
  rw [← e.eqv]
  exact AET.at' (aet_eqP hr (ha.ae (hb.ae ⟨_, _, e.py A x, e.py A y, shp (e.lay x) (Nat.le_trans (e.dep x) (by decide)), shp (e.lay y) (Nat.le_trans (e.dep y) (by decide)), rfl, Ext.refl _⟩)))
theorem at_neE (hr : Room lv X.A) (ha : AV X a ρ A (e.d x)) (hb : AV X b ρ A (e.d y)) : AT X (.Compare a [.NotEq] [b] pos) ρ A (!decide (x = y)) := by
  rw [← e.eqv]
  exact AET.at' (aet_neP hr (ha.ae (hb.ae ⟨_, _, e.py A x, e.py A y, shp (e.lay x) (Nat.le_trans (e.dep x) (by decide)), shp (e.lay y) (Nat.le_trans (e.dep y) (by decide)), rfl, Ext.refl _⟩)))
theorem shpL (xs : List α) : SeqAt.shaped (.list (xs.map e.p)) = true := shp (layAll e xs) (by
  show PyData.depthAll (xs.map e.p) + 1 ≤ 64
  have := depthAll_le e xs
  omega)
theorem eqvL (xs ys : List α) : PyData.eqv (.list (xs.map e.p)) (.list (ys.map e.p)) = decide (xs = ys) := eqvAll e xs ys
theorem pyL {d : D} {xs : List α} (h : IsL A d (xs.map e.d)) : Py A d (.list (xs.map e.p)) := .lst h (pysAll e A xs)
variable {xs ys : List α}
theorem av_eqL (hr : Room lv X.A) (ha : AV X a ρ A d) (hb : AV X b ρ A d') (h : IsL A d (xs.map e.d)) (h' : IsL A d' (ys.map e.d)) : AV X (.Compare a [.Eq] [b] pos) ρ A (.bl (decide (xs = ys))) := by
  rw [← eqvL e]
  exact av_eqP hr ha hb (pyL e h) (pyL e h') (shpL e xs) (shpL e ys)
theorem at_eqL (hr : Room lv X.A) (ha : AV X a ρ A d) (hb : AV X b ρ A d') (h : IsL A d (xs.map e.d)) (h' : IsL A d' (ys.map e.d)) : AT X (.Compare a [.Eq] [b] pos) ρ A (decide (xs = ys)) := by
  rw [← eqvL e]
  exact AET.at' (aet_eqP hr (ha.ae (hb.ae ⟨_, _, pyL e h, pyL e h', shpL e xs, shpL e ys, rfl, Ext.refl _⟩)))
theorem at_neL (hr : Room lv X.A) (ha : AV X a ρ A d) (hb : AV X b ρ A d') (h : IsL A d (xs.map e.d)) (h' : IsL A d' (ys.map e.d)) : AT X (.Compare a [.NotEq] [b] pos) ρ A (!decide (xs = ys)) := by
  rw [← eqvL e]
  exact AET.at' (aet_neP hr (ha.ae (hb.ae ⟨_, _, pyL e h, pyL e h', shpL e xs, shpL e ys, rfl, Ext.refl _⟩)))
end
end
end C7
namespace C7
open PySem PySem.Spec PyProof.Rows L2
/-! ### the law's own fractions -/
abbrev Fq := Int × Int
def fr (f : Fq) : D := .tup [.int f.1, .int f.2]
def val (f : Fq) : Rat := (f.1 : Rat) / (f.2 : Rat)
structure Fz (m : Nat) (f : Fq) : Prop where
  b1 : f.1.natAbs < 2 ^ m
  b2 : f.2.natAbs < 2 ^ m
  nz : f.2 ≠ 0
def fS (q : Rat) : Fq := (q.num, (q.den : Int))
theorem fr_S (q : Rat) : fr (fS q) = sh q := rfl
theorem val_S (q : Rat) : val (fS q) = q := by
  have := rat_eq q
  unfold val fS
  have e : (((q.den : Int)) : Rat) = (q.den : Rat) := by push_cast; rfl
  rw [e]
  exact this.symm
theorem fz_S {m : Nat} {q : Rat} (h : Sz m q) : Fz m (fS q) := ⟨h.num, h.den, by have := den_pos q; unfold fS; show (q.den : Int) ≠ 0; omega⟩
theorem Fz.up {m n : Nat} {f : Fq} (h : Fz m f) (e : m ≤ n) : Fz n f := ⟨bt_le h.b1 e, bt_le h.b2 e, h.nz⟩
def fMul (f g : Fq) : Fq := (f.1 * g.1, f.2 * g.2)
def fAdd (f g : Fq) (s : Int) : Fq := (f.1 * g.2 + s * g.1 * f.2, f.2 * g.2)
theorem fz_mul {m n : Nat} {f g : Fq} (h : Fz m f) (h' : Fz n g) : Fz (m + n) (fMul f g) := ⟨bt_mul h.b1 h'.b1, bt_mul h.b2 h'.b2, Int.mul_ne_zero h.nz h'.nz⟩
theorem fz_add {m n : Nat} {f g : Fq} {s : Int} (h : Fz m f) (h' : Fz n g) (hs : s.natAbs < 2 ^ 1) : Fz (m + n + 2) (fAdd f g s) := by
  refine ⟨?_, bt_le (bt_mul h.b2 h'.b2) (by omega), Int.mul_ne_zero h.nz h'.nz⟩
  exact bt_le (bt_add (bt_mul h.b1 h'.b2) (bt_mul (bt_mul hs h'.b1) h.b2)) (by omega)
theorem val_ne {f : Fq} {m : Nat} (h : Fz m f) : (f.2 : Rat) ≠ 0 := fun e => h.nz (by exact_mod_cast e)
theorem val_mul (f g : Fq) : val (fMul f g) = val f * val g := by
  unfold val fMul
  have e1 : ((f.1 * g.1 : Int) : Rat) = (f.1 : Rat) * g.1 := by push_cast; rfl
  have e2 : ((f.2 * g.2 : Int) : Rat) = (f.2 : Rat) * g.2 := by push_cast; rfl
  show ((f.1 * g.1 : Int) : Rat) / ((f.2 * g.2 : Int) : Rat) = _
  rw [e1, e2]
  grind
theorem val_add {m n : Nat} {f g : Fq} (s : Int) (h : Fz m f) (h' : Fz n g) : val (fAdd f g s) = val f + s * val g := by
  have h1 := val_ne h
  have h2 := val_ne h'
  unfold val fAdd
  have e1 : ((f.1 * g.2 + s * g.1 * f.2 : Int) : Rat) = (f.1 : Rat) * g.2 + s * g.1 * f.2 := by push_cast; rfl
  have e2 : ((f.2 * g.2 : Int) : Rat) = (f.2 : Rat) * g.2 := by push_cast; rfl
  show ((f.1 * g.2 + s * g.1 * f.2 : Int) : Rat) / ((f.2 * g.2 : Int) : Rat) = _
  rw [e1, e2]
  generalize (f.1 : Rat) = a at *
  generalize (f.2 : Rat) = b at *
  generalize (g.1 : Rat) = c at *
  generalize (g.2 : Rat) = d at *
  have h3 : b * d ≠ 0 := fun h => (Rat.mul_eq_zero.mp h).elim h1 h2
  grind
theorem tup_pt (a b : Rat) : D.tup [sh a, sh b] = pt (a, b) := rfl
theorem tup_0 : D.tup [.int 0, .int 1] = sh 0 := rfl
theorem tup_1 : D.tup [.int 1, .int 1] = sh 1 := rfl
def SzP (m : Nat) (p : Pt) : Prop := Sz m p.1 ∧ Sz m p.2
theorem SzP.l {m : Nat} {p : Pt} (h : SzP m p) : Sz m p.1 := h.1
theorem SzP.r {m : Nat} {p : Pt} (h : SzP m p) : Sz m p.2 := h.2
theorem SzP.up {m n : Nat} {p : Pt} (h : SzP m p) (e : m ≤ n) : SzP n p := ⟨h.1.up e, h.2.up e⟩
def onWay (p q : Pt) (t : Rat) : Pt := (p.1 + t * (q.1 - p.1), p.2 + t * (q.2 - p.2))
def sel (p : Pt) (i : Nat) : Rat := if i = 0 then p.1 else p.2
theorem at2 {p : Pt} {i : Nat} (h : i < 2) : atI [sh p.1, sh p.2] (0 + (i : Int)) = some (sh (sel p i)) := by
  match i, h with
  | 0, _ => rfl
  | 1, _ => rfl
theorem sel_sz {m : Nat} {p : Pt} {i : Nat} (h : SzP m p) : Sz m (sel p i) := by
  unfold sel
  split
  · exact h.1
  · exact h.2
theorem len5 {α : Type} {as : List α} (h : as.length = 5) : ∃ a b c d e, as = [a, b, c, d, e] := by
  match as, h with
  | [a, b, c, d, e], _ => exact ⟨a, b, c, d, e, rfl⟩
end C7
namespace C7
open PySem PySem.Spec PyProof.Rows L2
/-! ### shares over one bottom -/
def Ov (B : Int) (m : Nat) (q : Rat) : Prop := ∃ N : Int, q = (N : Rat) / (B : Rat) ∧ N.natAbs < 2 ^ m
def OvP (B : Int) (m : Nat) (p : Pt) : Prop := Ov B m p.1 ∧ Ov B m p.2
theorem ov_sz {B : Int} {m : Nat} {q : Rat} (hB : B ≠ 0) (hb : B.natAbs < 2 ^ m) (h : Ov B m q) : Sz m q := by
  obtain ⟨N, e, hN⟩ := h
  exact sz_div hB e hN hb
theorem ovp_sz {B : Int} {m : Nat} {p : Pt} (hB : B ≠ 0) (hb : B.natAbs < 2 ^ m) (h : OvP B m p) : SzP m p := ⟨ov_sz hB hb h.1, ov_sz hB hb h.2⟩
theorem Ov.up {B : Int} {m n : Nat} {q : Rat} (h : Ov B m q) (e : m ≤ n) : Ov B n q := by
  obtain ⟨N, e', hN⟩ := h
  exact ⟨N, e', bt_le hN e⟩
theorem OvP.up {B : Int} {m n : Nat} {q : Pt} (h : OvP B m q) (e : m ≤ n) : OvP B n q := ⟨h.1.up e, h.2.up e⟩
theorem ov_between {B : Int} {m n : Nat} {p q t : Rat} (hB : B ≠ 0) (h1 : Ov B m p) (h2 : Ov B m q) (ht : Sz n t) : Ov (B * (t.den : Int)) (m + n + 2) (p + t * (q - p)) := by
  obtain ⟨N1, e1, b1⟩ := h1
  obtain ⟨N2, e2, b2⟩ := h2
  refine ⟨N1 * (t.den : Int) + t.num * (N2 - N1), ?_, ?_⟩
  · have h3 := rat_eq t
    have h6 := den_ne t
    have hB' : (B : Rat) ≠ 0 := fun e => hB (by exact_mod_cast e)
    have c1 : ((N1 * (t.den : Int) + t.num * (N2 - N1) : Int) : Rat) = (N1 : Rat) * (t.den : Rat) + t.num * ((N2 : Rat) - N1) := by push_cast; rfl
    have c2 : ((B * (t.den : Int) : Int) : Rat) = (B : Rat) * (t.den : Rat) := by push_cast; rfl
    rw [c1, c2, e1, e2]
    generalize (N1 : Rat) = a at *
    generalize (N2 : Rat) = b at *
    generalize (B : Rat) = c at *
    generalize (t.num : Rat) = tn at *
    generalize (t.den : Rat) = td at *
    subst h3
    have h7 : c * td ≠ 0 := fun h => (Rat.mul_eq_zero.mp h).elim hB' h6
    grind
  · exact bt_le (bt_add (bt_mul b1 ht.den) (bt_mul ht.num (bt_sub b2 b1))) (by omega)
theorem ovp_on {B : Int} {m n : Nat} {p q : Pt} {t : Rat} (hB : B ≠ 0) (h1 : OvP B m p) (h2 : OvP B m q) (ht : Sz n t) : OvP (B * (t.den : Int)) (m + n + 2) (onWay p q t) := ⟨ov_between hB h1.1 h2.1 ht, ov_between hB h1.2 h2.2 ht⟩

/-! ### lists by place -/
theorem atG {α : Type} {f : α → D} (d0 : α) {xs : List α} {i : Int} (h0 : 0 ≤ i) (h : i < xs.length) : atI (xs.map f) i = some (f (xs.getD i.toNat d0)) := by
  obtain ⟨k, rfl⟩ := Int.eq_ofNat_of_zero_le h0
  refine atI_map ?_
  rw [List.getD_eq_getElem?_getD, List.getElem?_eq_getElem (show k < xs.length by omega)]
  simp
  rw [List.getElem?_eq_getElem (show k < xs.length by omega)]
  rfl
theorem atM1 {α : Type} {f : α → D} (d0 : α) {xs : List α} {n : Nat} (h : xs.length = n + 1) : atI (xs.map f) (-1) = some (f (xs.getD n d0)) := by
  unfold atI
  have e : ixN (xs.map f).length (-1) = some n := by
    rw [List.length_map, h]
    unfold ixN
    simp
    omega
  rw [e]
  show (xs.map f)[n]? = _
  rw [List.getElem?_map, List.getD_eq_getElem?_getD, List.getElem?_eq_getElem (show n < xs.length by omega)]
  rfl
/-- a point of a row -/
def gp (row : List Pt) (k : Nat) : Pt := row.getD k (0, 0)
theorem gp_mem {row : List Pt} {k : Nat} (h : k < row.length) : gp row k ∈ row := by
  unfold gp
  rw [List.getD_eq_getElem?_getD, List.getElem?_eq_getElem h]
  exact List.getElem_mem h
theorem gp_map {n : Nat} {g : Nat → Pt} {k : Nat} (h : k < n) : gp ((List.range n).map g) k = g k := by
  unfold gp
  rw [List.getD_eq_getElem?_getD, List.getElem?_map, List.getElem?_range h]
  rfl
def nextR (t : Rat) (row : List Pt) : List Pt := (List.range (row.length - 1)).map fun k => onWay (gp row k) (gp row (k + 1)) t
theorem nextR_len (t : Rat) (row : List Pt) : (nextR t row).length = row.length - 1 := by unfold nextR; simp
theorem nextR_gp {t : Rat} {row : List Pt} {k : Nat} (h : k < row.length - 1) : gp (nextR t row) k = onWay (gp row k) (gp row (k + 1)) t := gp_map h
def iterR (t : Rat) (row : List Pt) : Nat → List Pt
  | 0 => row
  | j + 1 => nextR t (iterR t row j)
theorem iterR_len (t : Rat) (row : List Pt) (j : Nat) : (iterR t row j).length = row.length - j := by
  induction j with
  | zero => rfl
  | succ j ih => show (nextR t (iterR t row j)).length = _; rw [nextR_len, ih]; omega
theorem iterR_ov {t : Rat} {row : List Pt} {B : Int} {m n : Nat} (hB : B ≠ 0) (ht : Sz n t) (h : ∀ p ∈ row, OvP B m p) : ∀ j, ∀ p ∈ iterR t row j, OvP (B * (t.den : Int) ^ j) (m + j * (n + 2)) p := by
  intro j
  induction j with
  | zero => intro p hp; rw [Int.pow_zero, Int.mul_one, Nat.zero_mul]; exact h p hp
  | succ j ih =>
    intro p hp
    have hp : p ∈ nextR t (iterR t row j) := hp
    unfold nextR at hp
    rw [List.mem_map] at hp
    obtain ⟨k, hk, rfl⟩ := hp
    rw [List.mem_range] at hk
    have hne : B * (t.den : Int) ^ j ≠ 0 := Int.mul_ne_zero hB (Int.pow_ne_zero (by have := den_pos t; omega))
    have := ovp_on hne (ih _ (gp_mem (k := k) (by omega))) (ih _ (gp_mem (k := k + 1) (by omega))) ht
    rw [Int.pow_succ, ← Int.mul_assoc]
    refine this.up ?_
    rw [Nat.succ_mul]
    omega
theorem bt_pow {i : Int} {a : Nat} (h : i.natAbs < 2 ^ a) (j : Nat) : (i ^ j).natAbs < 2 ^ (j * a + 1) := by
  induction j with
  | zero => rw [Int.pow_zero, Nat.zero_mul]; decide
  | succ j ih =>
    rw [Int.pow_succ]
    refine bt_le (bt_mul ih h) ?_
    rw [Nat.succ_mul]
    omega
theorem iterR_sz {t : Rat} {row : List Pt} {B : Int} {m n b : Nat} (hB : B ≠ 0) (hb : B.natAbs < 2 ^ b) (hbm : b < m) (ht : Sz n t) (h : ∀ p ∈ row, OvP B m p) (j : Nat) : ∀ p ∈ iterR t row j, SzP (m + j * (n + 2)) p := fun p hp => by
  refine ovp_sz (Int.mul_ne_zero hB (Int.pow_ne_zero (by have := den_pos t; omega))) ?_ (iterR_ov hB ht h j p hp)
  refine bt_le (bt_mul hb (bt_pow ht.den j)) ?_
  rw [Nat.mul_add]
  omega
/-- the point of a curve -/
def pointR (t : Rat) (row : List Pt) : Pt := gp (iterR t row (row.length - 1)) 0
def rowsR (t : Rat) (row : List Pt) : List (List Pt) := (List.range row.length).map (iterR t row)

/-! ### a list of lists on the heap -/
structure Rws (A : AH) (ps : List Addr) (r : Addr) (A' : AH) (rs : List (List Pt)) : Prop where
  ext : Ext A A'
  len : ps.length = rs.length
  nd : (r :: ps).Nodup
  new : ∀ p ∈ r :: ps, A p = none
  row : ∀ (i : Nat) (p : Addr) (w : List Pt), ps[i]? = some p → rs[i]? = some w → A' p = some (.lst (w.map pt))
  top : A' r = some (.lst (ps.map .ref))
theorem Rws.push {A A' : AH} {ps : List Addr} {r p : Addr} {rs : List (List Pt)} {w : List Pt} (h : Rws A ps r A' rs) (hp : A' p = none) :
    Rws A (ps ++ [p]) r (aupd (aupd A' p (.lst (w.map pt))) r (.lst (ps.map D.ref ++ [.ref p]))) (rs ++ [w]) := by
  have hpr : r ≠ p := fun e => by rw [← e, h.top] at hp; exact nomatch hp
  have hmem : ∀ q ∈ ps, q ≠ p := fun q hq e => by
    obtain ⟨i, hi, hq⟩ := List.getElem_of_mem hq
    have := h.row i q (rs.getD i []) (by rw [List.getElem?_eq_getElem hi, hq]) (by
      have : i < rs.length := by rw [← h.len]; exact hi
      rw [List.getD_eq_getElem?_getD, List.getElem?_eq_getElem this]; rfl)
    rw [e, hp] at this
    exact nomatch this
  have hnd := h.nd
  rw [List.nodup_cons] at hnd
  refine ⟨?_, by simp [h.len], ?_, ?_, ?_, ?_⟩
  · intro q o hq
    have h1 : q ≠ r := fun e => by rw [e, h.new r (by simp)] at hq; exact nomatch hq
    have h2 : q ≠ p := fun e => by have := h.ext q o hq; rw [e, hp] at this; exact nomatch this
    rw [aupd_ne h1, aupd_ne h2]
    exact h.ext q o hq
  · rw [List.nodup_cons]
    refine ⟨?_, ?_⟩
    · rw [List.mem_append]
      rintro (h1 | h1)
      · exact hnd.1 h1
      · rw [List.mem_singleton] at h1; exact hpr h1
    · rw [List.nodup_append]
      refine ⟨hnd.2, by simp, ?_⟩
      intro a ha b hb
      rw [List.mem_singleton] at hb
      rw [hb]
      exact hmem a ha
  · intro q hq
    simp only [List.mem_cons, List.mem_append, List.not_mem_nil, or_false] at hq
    rcases hq with h1 | h1 | h1
    · exact h.new q (by simp [h1])
    · exact h.new q (by simp [h1])
    · rw [h1]
      cases e : A p with
      | none => rfl
      | some o => have := h.ext p o e; rw [hp] at this; exact nomatch this
  · intro i q w' hi hw
    by_cases hlt : i < ps.length
    · rw [List.getElem?_append_left hlt] at hi
      rw [List.getElem?_append_left (by rw [← h.len]; exact hlt)] at hw
      have hm : q ∈ ps := List.mem_of_getElem? hi
      have h1 : q ≠ r := fun e => hnd.1 (e ▸ hm)
      rw [aupd_ne h1, aupd_ne (hmem q hm)]
      exact h.row i q w' hi hw
    · rw [List.getElem?_append_right (by omega)] at hi
      rw [List.getElem?_append_right (by rw [← h.len]; omega), ← h.len] at hw
      have h0 : i - ps.length = 0 := by
        by_cases h0 : i - ps.length = 0
        · exact h0
        · rw [List.getElem?_eq_none (by show [p].length ≤ _; simp; omega)] at hi
          exact nomatch hi
      rw [h0] at hi hw
      have e1 : p = q := Option.some.inj hi
      have e2 : w = w' := Option.some.inj hw
      subst e1 e2
      rw [aupd_ne (fun e => hpr e.symm), aupd_same]
  · rw [aupd_same, List.map_append]
    rfl
theorem Rws.one {A : AH} {p r : Addr} {w : List Pt} (hp : A p = none) (hr : aupd A p (.lst (w.map pt)) r = none) : Rws A [p] r (aupd (aupd A p (.lst (w.map pt))) r (.lst [.ref p])) [w] := by
  have hpr : r ≠ p := fun e => by rw [e, aupd_same] at hr; exact nomatch hr
  rw [aupd_ne hpr] at hr
  refine ⟨?_, rfl, by simp [hpr], ?_, ?_, aupd_same⟩
  · intro q o hq
    have h1 : q ≠ r := fun e => by rw [e, hr] at hq; exact nomatch hq
    have h2 : q ≠ p := fun e => by rw [e, hp] at hq; exact nomatch hq
    rw [aupd_ne h1, aupd_ne h2]
    exact hq
  · intro q hq
    simp only [List.mem_cons, List.not_mem_nil, or_false] at hq
    rcases hq with h1 | h1 <;> rw [h1] <;> assumption
  · intro i q w' hi hw
    match i, hi, hw with
    | 0, hi, hw =>
      have e1 : p = q := Option.some.inj hi
      have e2 : w = w' := Option.some.inj hw
      subst e1 e2
      rw [aupd_ne (fun e => hpr e.symm), aupd_same]
theorem len2 {α : Type} {as : List α} (h : as.length = 2) : ∃ a b, as = [a, b] := by
  match as, h with
  | [a, b], _ => exact ⟨a, b, rfl⟩
theorem ixN_z {n : Nat} {i : Int} (h0 : 0 ≤ i) (h : i < n) : ixN n i = some i.toNat := by
  unfold ixN
  rw [if_pos h0, if_pos h]
theorem atP {row : List Pt} {i : Nat} {j : Int} (e : j = (i : Int)) (h : i < row.length) : atI (row.map pt) j = some (pt (gp row i)) := by
  subst e
  exact atG (f := pt) (0, 0) (by omega) (by omega)
theorem atQ {qs : List Rat} {i : Nat} {j : Int} (e : j = (i : Int)) (h : i < qs.length) : atI (qs.map sh) j = some (sh (qs.getD i 0)) := by
  subst e
  exact atG (f := sh) 0 (by omega) (by omega)
theorem getD_in {α : Type} {xs : List α} {k : Nat} {d0 : α} {P : α → Prop} (h : ∀ x ∈ xs, P x) (hk : k < xs.length) : P (xs.getD k d0) := by
  rw [List.getD_eq_getElem?_getD, List.getElem?_eq_getElem hk]
  exact h _ (List.getElem_mem hk)
theorem shI (x : Int) : D.tup [.int x, .int 1] = sh (x : Rat) := rfl
theorem sz_int {x : Int} {m : Nat} (h : x.natAbs < 2 ^ m) (h0 : 0 < m) : Sz m (x : Rat) := ⟨h, Nat.one_lt_two_pow (by omega)⟩
/-- constants of the top: a tuple of two whole numbers, of two such tuples -/
theorem kTup2 {K : Frag} {c : Addr} {o : Obj} {i j : Int} {t1 t2 : Tok} {n : Nat} (l : List.lookup c K = some o) (hc : o.cls = .type "tuple") (hd : o.data = .seq #[.int i t1, .int j t2] n) (H : Hp) : Rp K H (.ref c) (.tup [.int i, .int j]) :=
  .tup (vs := [.int i, .int j]) (.inr ⟨o, _, n, l, hc, hd, Nat.le_of_ble_eq_true rfl, .cons ⟨t1, rfl⟩ (.cons ⟨t2, rfl⟩ .nil)⟩) (.cons (.int i) (.cons (.int j) .nil))
theorem kTupP {K : Frag} {c a b : Addr} {o : Obj} {d e : D} {n : Nat} (l : List.lookup c K = some o) (hc : o.cls = .type "tuple") (hd : o.data = .seq #[.ref a, .ref b] n) (h1 : ∀ H, Rp K H (.ref a) d) (h2 : ∀ H, Rp K H (.ref b) e) (H : Hp) : Rp K H (.ref c) (.tup [d, e]) :=
  .tup (vs := [.ref a, .ref b]) (.inr ⟨o, _, n, l, hc, hd, Nat.le_of_ble_eq_true rfl, .cons rfl (.cons rfl .nil)⟩) (.cons (h1 H) (.cons (h2 H) .nil))
/-- how long a list in a slot is -/
def lenAt (A : AH) : Option D → Nat
  | some (.ref r) => match A r with
    | some (.lst ds) => ds.length
    | _ => 0
  | _ => 0
theorem lenAt_eq {A : AH} {r : Addr} {ds : List D} (h : A r = some (.lst ds)) : lenAt A (some (.ref r)) = ds.length := by
  show (match A r with | some (.lst ds) => ds.length | _ => 0) = _
  rw [h]
section
variable {X : Cx} {ρ : Ro} {A : AH} {a b : Expr} {pos : Pos} {d : D} {lv : Nat} {α : Type} [DecidableEq α] (e : Enc α) {xs ys : List α}
/-- a list and a list just written -/
theorem av_eqLN (hr : Room lv X.A) (ha : AV X a ρ A d) (hb : AL X b ρ A (ys.map e.d)) (h : IsL A d (xs.map e.d)) : AV X (.Compare a [.Eq] [b] pos) ρ A (.bl (decide (xs = ys))) := by
  rw [← eqvL e]
  exact AE.av (ae_eqP hr (ha.ae (hb.ae fun p hp => ⟨_, _, pyL e (h.ext (Ext.new hp)), pyL e (IsL.of aupd_same), shpL e xs, shpL e ys, rfl, Ext.new hp⟩)))
end
end C7
namespace C7
open PySem PySem.Spec PyProof.Rows L2
theorem Ext.res {A A' : AH} {z : Addr} {o : AO} (h : Ext A A') (hz : A' z = some o) : Ext (aupd A z o) A' := fun q u e => by
  by_cases hq : q = z
  · subst hq
    rw [aupd_same] at e
    rw [hz]
    exact e
  · rw [aupd_ne hq] at e
    exact h q u e
theorem AL.is {X : Cx} {e : Expr} {ρ : Ro} {A : AH} {ds ds' : List D} (h : AL X e ρ A ds) (q : ds = ds') : AL X e ρ A ds' := q ▸ h
theorem cutkD (xs : List D) (k : Nat) : cutD xs (some (k : Int)) none = xs.drop k := by
  unfold cutD
  rw [show HT.sIx xs.length 0 (some (k : Int)) = min k xs.length from HT.sIx_nat xs.length 0 k, HT.sIx_none]
  by_cases h : k ≤ xs.length
  · rw [Nat.min_eq_left h]
    exact List.take_of_length_le (by rw [List.length_drop]; omega)
  · rw [Nat.min_eq_right (by omega), List.drop_eq_nil_of_le (Nat.le_refl _), List.drop_eq_nil_of_le (by omega), List.take_nil]
theorem cutTD (xs : List D) (k : Nat) : cutD xs none (some (k : Int)) = xs.take k := by
  unfold cutD
  rw [show HT.sIx xs.length xs.length (some (k : Int)) = min k xs.length from HT.sIx_nat xs.length xs.length k, HT.sIx_none, List.drop_zero, Nat.sub_zero]
  by_cases h : k ≤ xs.length
  · rw [Nat.min_eq_left h]
  · rw [Nat.min_eq_right (by omega), List.take_of_length_le (Nat.le_refl _), List.take_of_length_le (by omega)]
theorem half_nd : (1 / 2 : Rat).num = 1 ∧ ((1 / 2 : Rat).den : Int) = 2 := num_den (by decide) (by decide) (by push_cast; rfl)
theorem tup_h : D.tup [.int 1, .int 2] = sh (1 / 2) := by
  unfold sh
  rw [half_nd.1, half_nd.2]
theorem sz_h : Sz 110 (1 / 2 : Rat) := by
  have h1 := half_nd.2
  have h : (2 : Nat) < 2 ^ 110 := by decide
  refine ⟨?_, ?_⟩
  · rw [half_nd.1]; decide
  · omega
/-! ### a op b op c -/
section
variable {X : Cx} {ρ : Ro} {A : AH} {a b c : Expr} {pos : Pos} {i j l : Int}
theorem at_ch {op op' : CmpOp} {r r' : R2} {g g' : Int → Int → Bool} (ho : OpR X (compareOp op) r) (ho' : OpR X (compareOp op') r') (e : r = rI0 fun i j => .bl (g i j)) (e' : r' = rI0 fun i j => .bl (g' i j)) (ha : AV X a ρ A (.int i)) (hb : AV X b ρ A (.int j)) (hc : AV X c ρ A (.int l))
    (hm : lastMarks [op, op'] [b, c] = false := by with_unfolding_all rfl) : AT X (.Compare a [op, op'] [b, c] pos) ρ A (g i j && g' j l) := fun σ H s Q q =>
  tmt_of (pt_chain ho ho' (pe_tm a) (pe_tm b) (pe_tm c) hm) (ha σ H s _ fun v H1 t1 r1 l1 => hb σ H1 (s.mono t1 l1) _ fun u H2 t2 r2 l2 => cmpI e v u H2 (r1.mono t2) r2 l2 _ fun H3 t3 l3 => ⟨g i j, rfl, by
    cases hg : g i j with
    | false => rw [if_neg (by decide)]; rw [hg] at q; exact ⟨false, rfl, q H3 ((t1.trans t2).trans t3) l3⟩
    | true =>
      rw [if_pos rfl]
      rw [hg] at q
      exact hc σ H3 (s.mono ((t1.trans t2).trans t3) l3) _ fun z H4 t4 r4 l4 => cmpI e' u z H4 ((r2.mono t3).mono t4) r4 l4 _ fun H5 t5 l5 => ⟨g' j l, rfl, q H5 ((((t1.trans t2).trans t3).trans t4).trans t5) l5⟩⟩)
theorem at_lele (ha : AV X a ρ A (.int i)) (hb : AV X b ρ A (.int j)) (hc : AV X c ρ A (.int l)) (hm : lastMarks [.LtE, .LtE] [b, c] = false := by with_unfolding_all rfl) : AT X (.Compare a [.LtE, .LtE] [b, c] pos) ρ A (decide (i ≤ j) && decide (j ≤ l)) :=
  at_ch (g := fun i j => decide (i ≤ j)) (g' := fun i j => decide (i ≤ j)) op_le op_le rfl rfl ha hb hc hm
theorem at_ltlt (ha : AV X a ρ A (.int i)) (hb : AV X b ρ A (.int j)) (hc : AV X c ρ A (.int l)) (hm : lastMarks [.Lt, .Lt] [b, c] = false := by with_unfolding_all rfl) : AT X (.Compare a [.Lt, .Lt] [b, c] pos) ρ A (decide (i < j) && decide (j < l)) :=
  at_ch (g := fun i j => decide (i < j)) (g' := fun i j => decide (i < j)) op_lt op_lt rfl rfl ha hb hc hm
theorem at_lelt (ha : AV X a ρ A (.int i)) (hb : AV X b ρ A (.int j)) (hc : AV X c ρ A (.int l)) (hm : lastMarks [.LtE, .Lt] [b, c] = false := by with_unfolding_all rfl) : AT X (.Compare a [.LtE, .Lt] [b, c] pos) ρ A (decide (i ≤ j) && decide (j < l)) :=
  at_ch (g := fun i j => decide (i ≤ j)) (g' := fun i j => decide (i < j)) op_le op_lt rfl rfl ha hb hc hm
end
theorem atR {g : Nat → D} {n i : Nat} {j : Int} (e : j = (i : Int)) (h : i < n) : atI ((List.range n).map g) j = some (g i) := by
  subst e
  exact atI_map (by rw [List.getElem?_range h])
theorem atR1 {g : Nat → D} {n : Nat} : atI ((List.range (n + 1)).map g) (-1) = some (g n) := by
  have h := atM1 (f := g) (xs := List.range (n + 1)) (n := n) 0 (by simp)
  rw [h, List.getD_eq_getElem?_getD, List.getElem?_range (by omega)]
  rfl
theorem range_push (g : Nat → D) (n : Nat) : (List.range n).map g ++ [g n] = (List.range (n + 1)).map g := by rw [List.range_succ, List.map_append]; rfl
theorem sz_pow {t : Rat} {m : Nat} (h : Sz m t) (k : Nat) : Sz (k * m + 1) (t ^ k) := by
  induction k with
  | zero => rw [Rat.pow_zero, Nat.zero_mul]; exact sz_one
  | succ k ih => rw [Rat.pow_succ, Nat.succ_mul]; exact (sz_mul ih h).up (by omega)
theorem sz_powU {t : Rat} {m M k n : Nat} (h : Sz m t) (hk : k ≤ n) (hM : n * m + 1 ≤ M) : Sz M (t ^ k) := (sz_pow h k).up (by have := Nat.mul_le_mul_right m hk; omega)
theorem bt_powU {i : Int} {a M k n : Nat} (h : i.natAbs < 2 ^ a) (hk : k ≤ n) (hM : n * a + 1 ≤ M) : (i ^ k).natAbs < 2 ^ M := bt_le (bt_pow h k) (by have := Nat.mul_le_mul_right a hk; omega)
/-! ### sums and weights -/
def sumN (f : Nat → Rat) : Nat → Rat
  | 0 => 0
  | n + 1 => sumN f n + f n
theorem sumN_first (f : Nat → Rat) (n : Nat) : sumN f (n + 1) = f 0 + sumN (fun k => f (k + 1)) n := by
  induction n with
  | zero => show 0 + f 0 = f 0 + 0; grind
  | succ n ih => show sumN f (n + 1) + f (n + 1) = f 0 + (sumN (fun k => f (k + 1)) n + f (n + 1)); rw [ih]; grind
theorem sumN_add (f g : Nat → Rat) (n : Nat) : sumN (fun k => f k + g k) n = sumN f n + sumN g n := by
  induction n with
  | zero => show (0 : Rat) = 0 + 0; grind
  | succ n ih => show sumN _ n + (f n + g n) = sumN f n + f n + (sumN g n + g n); rw [ih]; grind
theorem sumN_mul (c : Rat) (f : Nat → Rat) (n : Nat) : sumN (fun k => c * f k) n = c * sumN f n := by
  induction n with
  | zero => show (0 : Rat) = c * 0; grind
  | succ n ih => show sumN _ n + c * f n = c * (sumN f n + f n); rw [ih]; grind
theorem sumN_congr {f g : Nat → Rat} {n : Nat} (h : ∀ k, k < n → f k = g k) : sumN f n = sumN g n := by
  induction n with
  | zero => rfl
  | succ n ih => show sumN f n + f n = sumN g n + g n; rw [ih (fun k hk => h k (by omega)), h n (by omega)]
/-- how many ways there are to choose -/
def ch : Nat → Nat → Nat
  | _, 0 => 1
  | 0, _ + 1 => 0
  | n + 1, k + 1 => ch n k + ch n (k + 1)
theorem ch_zero (n : Nat) : ch n 0 = 1 := by cases n <;> rfl
theorem ch_over : ∀ {n k : Nat}, n < k → ch n k = 0 := by
  intro n
  induction n with
  | zero => intro k h; match k, h with | k + 1, _ => rfl
  | succ n ih =>
    intro k h
    match k, h with
    | k + 1, h => show ch n k + ch n (k + 1) = 0; rw [ih (by omega), ih (by omega)]
theorem ch_step : ∀ n k : Nat, (ch n k : Int) * ((n : Int) - k) = ch n (k + 1) * ((k : Int) + 1) := by
  intro n
  induction n with
  | zero =>
    intro k
    match k with
    | 0 => rfl
    | k + 1 => show ((0 : Nat) : Int) * _ = ((0 : Nat) : Int) * _; simp
  | succ n ih =>
    intro k
    match k with
    | 0 =>
      show ((1 : Nat) : Int) * _ = ((ch n 0 + ch n 1 : Nat) : Int) * _
      have h0 := ih 0
      rw [ch_zero] at h0
      rw [ch_zero]
      push_cast at h0 ⊢
      grind
    | k + 1 =>
      show ((ch n k + ch n (k + 1) : Nat) : Int) * _ = ((ch n (k + 1) + ch n (k + 1 + 1) : Nat) : Int) * _
      have h0 := ih k
      have h1 := ih (k + 1)
      push_cast at h0 h1 ⊢
      grind
theorem ch_le : ∀ n k : Nat, ch n k ≤ 2 ^ n := by
  intro n
  induction n with
  | zero => intro k; match k with | 0 => decide | k + 1 => exact Nat.zero_le _
  | succ n ih =>
    intro k
    match k with
    | 0 => exact Nat.one_le_two_pow
    | k + 1 => show ch n k + ch n (k + 1) ≤ _; have := ih k; have := ih (k + 1); rw [Nat.pow_succ]; omega
/-- what ways() reckons -/
theorem ch_div (n k : Nat) : (ch n k : Int) * ((n : Int) - k) / ((k : Int) + 1) = ch n (k + 1) := by
  rw [ch_step]
  exact Int.mul_ediv_cancel _ (by omega)
def bern (n k : Nat) (t : Rat) : Rat := (ch n k : Rat) * (t ^ k * (1 - t) ^ (n - k))
theorem bern_over {n k : Nat} (t : Rat) (h : n < k) : bern n k t = 0 := by unfold bern; rw [ch_over h]; simp
theorem bern_first (n : Nat) (t : Rat) : bern (n + 1) 0 t = (1 - t) * bern n 0 t := by
  unfold bern
  rw [ch_zero, ch_zero]
  simp only [Nat.sub_zero, Rat.pow_zero, Rat.pow_succ]
  grind
theorem bern_step {n k : Nat} (t : Rat) (h : k ≤ n) : bern (n + 1) (k + 1) t = t * bern n k t + (1 - t) * bern n (k + 1) t := by
  unfold bern
  have e1 : ((ch (n + 1) (k + 1) : Nat) : Rat) = (ch n k : Rat) + (ch n (k + 1) : Rat) := by
    show ((ch n k + ch n (k + 1) : Nat) : Rat) = _
    push_cast
    rfl
  have e2 : n + 1 - (k + 1) = n - k := by omega
  rw [e1, e2]
  by_cases hk : k < n
  · have e3 : n - k = (n - (k + 1)) + 1 := by omega
    rw [e3]
    simp only [Rat.pow_succ]
    grind
  · have e3 : ch n (k + 1) = 0 := ch_over (by omega)
    rw [e3]
    simp only [Rat.pow_succ]
    grind
/-- going between, by places -/
def cas (t : Rat) (x : Nat → Rat) : Nat → Nat → Rat
  | 0, i => x i
  | j + 1, i => cas t x j i + t * (cas t x j (i + 1) - cas t x j i)
theorem cas_bern (t : Rat) (x : Nat → Rat) : ∀ j i, cas t x j i = sumN (fun k => bern j k t * x (i + k)) (j + 1) := by
  intro j
  induction j with
  | zero =>
    intro i
    show x i = 0 + bern 0 0 t * x i
    unfold bern
    rw [ch_zero]
    simp only [Nat.sub_zero, Rat.pow_zero]
    grind
  | succ j ih =>
    intro i
    show cas t x j i + t * (cas t x j (i + 1) - cas t x j i) = _
    rw [ih i, ih (i + 1), sumN_first (fun k => bern (j + 1) k t * x (i + k)) (j + 1)]
    show _ = bern (j + 1) 0 t * x (i + 0) + sumN (fun k => bern (j + 1) (k + 1) t * x (i + (k + 1))) (j + 1)
    have e1 : sumN (fun k => bern (j + 1) (k + 1) t * x (i + (k + 1))) (j + 1) = sumN (fun k => t * (bern j k t * x (i + 1 + k)) + (1 - t) * (bern j (k + 1) t * x (i + (k + 1)))) (j + 1) := sumN_congr fun k hk => by
      rw [bern_step t (show k ≤ j by omega), show i + 1 + k = i + (k + 1) by omega]
      grind
    rw [e1, sumN_add, sumN_mul, sumN_mul, bern_first]
    have e2 : sumN (fun k => bern j k t * x (i + k)) (j + 1 + 1) = sumN (fun k => bern j k t * x (i + k)) (j + 1) := by
      show sumN _ (j + 1) + bern j (j + 1) t * x (i + (j + 1)) = _
      rw [bern_over t (by omega)]
      grind
    have e3 := sumN_first (fun k => bern j k t * x (i + k)) (j + 1)
    rw [e2] at e3
    have e4 : i + 0 = i := rfl
    generalize sumN (fun k => bern j k t * x (i + k)) (j + 1) = S at *
    generalize sumN (fun k => bern j k t * x (i + 1 + k)) (j + 1) = S1 at *
    generalize sumN (fun k => bern j (k + 1) t * x (i + (k + 1))) (j + 1) = S2 at *
    grind
theorem cas_one (t : Rat) : ∀ j i, cas t (fun _ => 1) j i = 1 := by
  intro j
  induction j with
  | zero => intro i; rfl
  | succ j ih => intro i; show cas t _ j i + t * (cas t _ j (i + 1) - cas t _ j i) = 1; rw [ih, ih]; grind
theorem bern_sum (n : Nat) (t : Rat) : sumN (fun k => bern n k t) (n + 1) = 1 := by
  have h := cas_bern t (fun _ => 1) n 0
  rw [cas_one] at h
  rw [h]
  exact sumN_congr fun k _ => by grind
theorem iterR_cas (t : Rat) (row : List Pt) : ∀ j i, i + j < row.length → (gp (iterR t row j) i).1 = cas t (fun k => (gp row k).1) j i ∧ (gp (iterR t row j) i).2 = cas t (fun k => (gp row k).2) j i := by
  intro j
  induction j with
  | zero => intro i _; exact ⟨rfl, rfl⟩
  | succ j ih =>
    intro i h
    have e : gp (iterR t row (j + 1)) i = onWay (gp (iterR t row j) i) (gp (iterR t row j) (i + 1)) t := nextR_gp (by rw [iterR_len]; omega)
    rw [e]
    have h1 := ih i (by omega)
    have h2 := ih (i + 1) (by omega)
    unfold onWay
    show _ + t * (_ - _) = _ + t * (_ - _) ∧ _ + t * (_ - _) = _ + t * (_ - _)
    rw [h1.1, h1.2, h2.1, h2.2]
    exact ⟨rfl, rfl⟩
theorem point_bern {t : Rat} {row : List Pt} (h : 0 < row.length) : pointR t row = (sumN (fun k => bern (row.length - 1) k t * (gp row k).1) row.length, sumN (fun k => bern (row.length - 1) k t * (gp row k).2) row.length) := by
  have e := iterR_cas t row (row.length - 1) 0 (by omega)
  have hl : row.length - 1 + 1 = row.length := by omega
  rw [cas_bern, cas_bern, hl] at e
  have e0 : ∀ k, 0 + k = k := fun k => by omega
  simp only [e0] at e
  exact Prod.ext e.1 e.2
theorem rpow_add (b : Rat) (m n : Nat) : b ^ (m + n) = b ^ m * b ^ n := by
  induction n with
  | zero => rw [Nat.add_zero, Rat.pow_zero]; grind
  | succ n ih => rw [← Nat.add_assoc, Rat.pow_succ, Rat.pow_succ, ih]; grind
theorem rmul_pow (a b : Rat) (n : Nat) : (a * b) ^ n = a ^ n * b ^ n := by
  induction n with
  | zero => rw [Rat.pow_zero, Rat.pow_zero, Rat.pow_zero]; grind
  | succ n ih => rw [Rat.pow_succ, Rat.pow_succ, Rat.pow_succ, ih]; grind
theorem rpow_ne {b : Rat} (h : b ≠ 0) (n : Nat) : b ^ n ≠ 0 := by
  induction n with
  | zero => rw [Rat.pow_zero]; decide
  | succ n ih => rw [Rat.pow_succ]; exact fun e => (Rat.mul_eq_zero.mp e).elim ih h
/-- a weight by whole numbers -/
theorem bern_frac (n k : Nat) (t : Rat) (h : k ≤ n) : bern n k t = (((ch n k : Int) * t.num ^ k * ((t.den : Int) - t.num) ^ (n - k) : Int) : Rat) / (((t.den : Int) ^ n : Int) : Rat) := by
  have h1 := rat_eq t
  have h2 := den_ne t
  have e1 : (((ch n k : Int) * t.num ^ k * ((t.den : Int) - t.num) ^ (n - k) : Int) : Rat) = (ch n k : Rat) * (t.num : Rat) ^ k * ((t.den : Rat) - (t.num : Rat)) ^ (n - k) := by push_cast; rfl
  have e2 : (((t.den : Int) ^ n : Int) : Rat) = (t.den : Rat) ^ n := by push_cast; rfl
  rw [e1, e2]
  unfold bern
  generalize (t.num : Rat) = a at *
  generalize (t.den : Rat) = b at *
  have e3 : b ^ n = b ^ k * b ^ (n - k) := by rw [← rpow_add]; congr 1; omega
  have e4 : t * b = a := by subst h1; grind
  have e5 : (1 - t) * b = b - a := by subst h1; grind
  have e6 : t ^ k * b ^ k = a ^ k := by rw [← rmul_pow, e4]
  have e7 : (1 - t) ^ (n - k) * b ^ (n - k) = (b - a) ^ (n - k) := by rw [← rmul_pow, e5]
  have h8 : b ^ k ≠ 0 := rpow_ne h2 _
  have h9 : b ^ (n - k) ≠ 0 := rpow_ne h2 _
  rw [e3, ← e6, ← e7]
  generalize b ^ k = u at *
  generalize b ^ (n - k) = v at *
  have h10 : u * v ≠ 0 := fun h => (Rat.mul_eq_zero.mp h).elim h8 h9
  grind
/-- the tops of the weights -/
def topW (n : Nat) (t : Rat) (k : Nat) : Int := (ch n k : Int) * t.num ^ k * ((t.den : Int) - t.num) ^ (n - k)
theorem bern_top {n k : Nat} (t : Rat) (h : k ≤ n) : bern n k t = ((topW n t k : Int) : Rat) / (((t.den : Int) ^ n : Int) : Rat) := bern_frac n k t h
def sumI (f : Nat → Int) : Nat → Int
  | 0 => 0
  | n + 1 => sumI f n + f n
theorem sumI_cast (f : Nat → Int) (n : Nat) : ((sumI f n : Int) : Rat) = sumN (fun k => ((f k : Int) : Rat)) n := by
  induction n with
  | zero => rfl
  | succ n ih => show ((sumI f n + f n : Int) : Rat) = sumN _ n + _; rw [← ih]; push_cast; rfl
theorem sum_range (f : Nat → Int) (n : Nat) : ((List.range n).map f).sum = sumI f n := by
  induction n with
  | zero => rfl
  | succ n ih => rw [List.range_succ, List.map_append, List.sum_append, ih]; show sumI f n + (f n + 0) = _; rw [Int.add_zero]; rfl
theorem top_sum (n : Nat) (t : Rat) : sumI (topW n t) (n + 1) = (t.den : Int) ^ n := by
  have h := bern_sum n t
  have hne : (((t.den : Int) ^ n : Int) : Rat) ≠ 0 := fun e => (Int.pow_ne_zero (show (t.den : Int) ≠ 0 by have := den_pos t; omega) : (t.den : Int) ^ n ≠ 0) (by exact_mod_cast e)
  have e : sumN (fun k => bern n k t) (n + 1) = sumN (fun k => (1 / (((t.den : Int) ^ n : Int) : Rat)) * ((topW n t k : Int) : Rat)) (n + 1) := sumN_congr fun k hk => by
    rw [bern_top t (by omega)]
    grind
  rw [e, sumN_mul, ← sumI_cast] at h
  have h2 : ((sumI (topW n t) (n + 1) : Int) : Rat) = (((t.den : Int) ^ n : Int) : Rat) := by
    generalize ((sumI (topW n t) (n + 1) : Int) : Rat) = u at *
    generalize (((t.den : Int) ^ n : Int) : Rat) = v at *
    grind
  exact_mod_cast h2
theorem top_nonneg {n k : Nat} {t : Rat} (h0 : 0 ≤ t.num) (h1 : t.num ≤ (t.den : Int)) : 0 ≤ topW n t k :=
  Int.mul_nonneg (Int.mul_nonneg (by omega) (Int.pow_nonneg h0)) (Int.pow_nonneg (by omega))
theorem topW_bt {n k a : Nat} {t : Rat} (h : Sz a t) (hn : n ≤ 12) (hk : k ≤ n) : (topW n t k).natAbs < 2 ^ (14 * (a + 1) + 70) := by
  unfold topW
  have h1 : ((ch n k : Nat) : Int).natAbs < 2 ^ 13 := by
    rw [Int.natAbs_natCast]
    exact Nat.lt_of_le_of_lt (ch_le n k) (Nat.pow_lt_pow_right (by decide) (by omega))
  have h2 := bt_pow h.num k
  have h3 := bt_pow (bt_sub h.den h.num) (n - k)
  refine bt_le (bt_mul (bt_mul h1 h2) h3) ?_
  have e1 : k * a ≤ k * (a + 1) := Nat.mul_le_mul_left _ (by omega)
  have e2 : (n - k) * (max a a + 1) = (n - k) * (a + 1) := by rw [Nat.max_self]
  have e3 : k * (a + 1) + (n - k) * (a + 1) = n * (a + 1) := by rw [← Nat.add_mul]; congr 1; omega
  have e4 : n * (a + 1) ≤ 12 * (a + 1) := Nat.mul_le_mul_right _ hn
  rw [e2]
  omega
end C7
namespace C7
open PySem PySem.Spec PyProof.Rows L2
/-! ### lists that are written no more: data by value -/
mutual
inductive Fr (A0 A : AH) : D → D → Prop
  | same (d : D) : Fr A0 A d d
  | lst {p : Addr} {ds vs : List D} : A0 p = none → A p = some (.lst ds) → Frs A0 A ds vs → Fr A0 A (.ref p) (.fz vs)
  | tup {ds vs : List D} : Frs A0 A ds vs → Fr A0 A (.tup ds) (.tup vs)
inductive Frs (A0 A : AH) : List D → List D → Prop
  | nil : Frs A0 A [] []
  | cons {d v : D} {ds vs : List D} : Fr A0 A d v → Frs A0 A ds vs → Frs A0 A (d :: ds) (v :: vs)
end
theorem Frs.refl {A0 A : AH} : ∀ ds : List D, Frs A0 A ds ds
  | [] => .nil
  | d :: ds => .cons (.same d) (Frs.refl ds)
/-- some of the new lists are locked by now -/
def RelF (K : Frag) (A0 A : AH) (H : Hp) : Prop := ∀ a o, A a = some o → (∃ u, H a = some u ∧ RelA K H o u) ∨ (A0 a = none ∧ ∃ ds vs ob, o = .lst ds ∧ H a = some (.frz ob (.lst vs)) ∧ Rps K H vs ds)
theorem RelF.put {K : Frag} {A0 A : AH} {H : Hp} (r : RelF K A0 A H) {p : Addr} {ds : List D} {vs : List V} {ob : Obj} (h0 : A0 p = none) (hA : A p = some (.lst ds)) (hp : H p = some (.lst vs)) (hr : Rps K H vs ds) :
    TS H (upd H p (.frz ob (.lst vs))) ∧ RelF K A0 A (upd H p (.frz ob (.lst vs))) := by
  have t : TS H (upd H p (.frz ob (.lst vs))) := TS.put hp (fun _ z => nomatch z) (fun _ _ z => nomatch z)
  refine ⟨t, fun a o q => ?_⟩
  by_cases e : a = p
  · subst e
    rw [hA] at q
    cases q
    exact .inr ⟨h0, ds, vs, ob, rfl, upd_same, hr.mono t⟩
  · rcases r a o q with ⟨u, e1, e2⟩ | ⟨e0, ds', vs', ob', e1, e2, e3⟩
    · exact .inl ⟨u, by rw [upd_ne e]; exact e1, e2.mono t⟩
    · exact .inr ⟨e0, ds', vs', ob', e1, by rw [upd_ne e]; exact e2, e3.mono t⟩
section
variable {X : Cx} {A0 A : AH} {pins : List (Addr × Obj)} {σ : L2.St} {s : Shared}
mutual
theorem Fr.go : ∀ {d v : D}, Fr A0 A d v → ∀ H, Inv X pins σ H s → RelF X.K A0 A H → ∃ H1, Inv X pins σ H1 s ∧ TS H H1 ∧ RelF X.K A0 A H1 ∧ ∀ H2, TS H1 H2 → ∀ x, Rp X.K H2 x d → Rp X.K H2 x v
  | _, _, .same d => fun H I r => ⟨H, I, TS.refl H, r, fun _ _ _ q => q⟩
  | _, _, .tup hs => fun H I r => by
    obtain ⟨H1, I1, t1, r1, q1⟩ := Frs.go hs H I r
    refine ⟨H1, I1, t1, r1, fun H2 t2 x q => ?_⟩
    obtain ⟨a, vs, rfl, h1, h2⟩ := q.tup_of
    exact .tup h1 (q1 H2 t2 vs h2)
  | _, _, .lst (p := p) h0 hA hs => fun H I r => by
    obtain ⟨H1, I1, t1, r1, q1⟩ := Frs.go hs H I r
    rcases r1 p _ hA with ⟨u, e1, vs, e2, e3⟩ | ⟨_, ds', vs, ob, e0, e1, e2⟩
    · subst e2
      obtain ⟨od, I2⟩ := I1.lock e1 trivial
      obtain ⟨t2, r2⟩ := r1.put (ob := od) h0 hA e1 e3
      refine ⟨_, I2, t1.trans t2, r2, fun H3 t3 x q => ?_⟩
      rw [q.ref_of]
      exact .fz (t3.z _ _ _ upd_same fun _ z => nomatch z) (q1 H3 (t2.trans t3) vs ((e3.mono t2).mono t3))
    · cases e0
      refine ⟨H1, I1, t1, r1, fun H3 t3 x q => ?_⟩
      rw [q.ref_of]
      exact .fz (t3.z _ _ _ e1 fun _ z => nomatch z) (q1 H3 t3 vs (e2.mono t3))
theorem Frs.go : ∀ {ds vs : List D}, Frs A0 A ds vs → ∀ H, Inv X pins σ H s → RelF X.K A0 A H → ∃ H1, Inv X pins σ H1 s ∧ TS H H1 ∧ RelF X.K A0 A H1 ∧ ∀ H2, TS H1 H2 → ∀ xs, Rps X.K H2 xs ds → Rps X.K H2 xs vs
  | _, _, .nil => fun H I r => ⟨H, I, TS.refl H, r, fun _ _ _ q => q⟩
  | _, _, .cons h hs => fun H I r => by
    obtain ⟨H1, I1, t1, r1, q1⟩ := Fr.go h H I r
    obtain ⟨H2, I2, t2, r2, q2⟩ := Frs.go hs H1 I1 r1
    refine ⟨H2, I2, t1.trans t2, r2, fun H3 t3 xs q => ?_⟩
    cases q with
    | cons a b => exact .cons (q1 H3 (t2.trans t3) _ a) (q2 H3 t3 _ b)
end
theorem Fr.lock {d v : D} {H : Hp} (f : Fr A0 A d v) (x : Ext A0 A) (I : Inv X pins σ H s) (r : Rel X.K A H) : ∃ H1, Inv X pins σ H1 s ∧ TS H H1 ∧ Rel X.K A0 H1 ∧ ∀ H2, TS H1 H2 → ∀ y, Rp X.K H2 y d → Rp X.K H2 y v := by
  obtain ⟨H1, I1, t1, r1, q1⟩ := f.go H I (fun a o q => .inl (r a o q))
  refine ⟨H1, I1, t1, fun a o q => ?_, q1⟩
  rcases r1 a o (x a o q) with h | ⟨h, _⟩
  · exact h
  · rw [q] at h; cases h
end
section
variable {X : Cx} {W : WX} {ρ : Ro} {A A0 : AH} {e a b c : Expr} {es : List Expr} {pos p0 : Pos} {d x y v : D} {k : AK} {ds : List D} {sts rest : List Stmt} {E : AEnds}
/-- what a value has of new lists is locked -/
theorem AE.frz (h : AE X e ρ A fun d A' => ∃ A0 v, Ext A0 A' ∧ Fr A0 A' d v ∧ k v A0) : AE X e ρ A k := fun σ H s Q q => ⟨fun pins st I =>
  thn ((h σ H s (fun v0 H' => ∃ d A' A0 v, TS H H' ∧ Rp X.K H' v0 d ∧ Rel X.K A' H' ∧ Ext A0 A' ∧ Fr A0 A' d v ∧ k v A0) (fun v0 H' d A' t r l ⟨A0, v, h1, h2, h3⟩ => ⟨d, A', A0, v, t, r, l, h1, h2, h3⟩)).go pins st I) fun u s' hu => by
    obtain ⟨v0, H', I', rv, d, A', A0, v, t, r, l, h1, h2, h3⟩ := hu
    obtain ⟨H1, I1, t1, r1, q1⟩ := h2.lock h1 I' l
    exact ⟨v0, H1, I1, rv, q v0 H1 v A0 (t.trans t1) (q1 H1 (TS.refl H1) _ (r.mono t1)) r1 h3⟩⟩
theorem AE.fz (h : AE X e ρ A fun d A' => ∃ A0 p vs ds, d = .ref p ∧ A0 p = none ∧ Ext A0 A' ∧ A' p = some (.lst ds) ∧ Frs A0 A' ds vs ∧ k (.fz vs) A0) : AE X e ρ A k :=
  AE.frz (h.mono fun d A' ⟨A0, p, vs, ds, e, h0, x, hA, hs, hk⟩ => ⟨A0, .fz vs, x, by rw [e]; exact .lst h0 hA hs, hk⟩)
theorem AL.av (h : AL X e ρ A ds) : AV X e ρ A (.fz ds) := AE.av (AE.fz (h.ae fun p hp => ⟨A, p, ds, ds, rfl, hp, Ext.new hp, aupd_same, Frs.refl ds, rfl, Ext.refl A⟩))
/-- a local's new lists are locked, ahead of what follows -/
theorem as_frz (i : Nat) (hd : ρ[i]? = some (some d)) (x : Ext A0 A) (f : Fr A0 A d v) (h : AS X W sts (ρ.set i (some v)) A0 E) : AS X W sts ρ A E := fun σ H s D q => ⟨fun pins st I => by
  obtain ⟨H1, I1, t1, r1, q1⟩ := f.lock x I s.hp
  refine (h σ H1 ⟨?_, fun j d' e => ?_, r1⟩ D (q.mono t1)).go pins st I1
  · rw [List.length_set]; exact s.len
  · by_cases hj : j = i
    · subst hj
      have hl : j < ρ.length := by
        rcases Nat.lt_or_ge j ρ.length with z | z
        · exact z
        · rw [List.getElem?_eq_none z] at hd; cases hd
      rw [List.getElem?_set_self hl] at e
      cases e
      obtain ⟨w, e1, e2⟩ := s.val j d hd
      exact ⟨w, e1, q1 H1 (TS.refl H1) _ (e2.mono t1)⟩
    · rw [List.getElem?_set_ne (Ne.symm hj)] at e
      obtain ⟨w, e1, e2⟩ := s.val j d' e
      exact ⟨w, e1, e2.mono t1⟩⟩
/-- .. one list -/
theorem as_fz (i : Nat) {p : Addr} (hd : ρ[i]? = some (some (.ref p))) (h0 : A p = none) (h : AS X W sts (ρ.set i (some (.fz ds))) A E) : AS X W sts ρ (aupd A p (.lst ds)) E :=
  as_frz i hd (Ext.new h0) (.lst h0 aupd_same (Frs.refl ds)) h

/-! ### names for what is stored -/
section
variable {β : Type} {f : β → D} {z : β} {i : Nat} {n : Str} {pos' : Pos}
theorem as_setv (hN : X.N.Nodup) (hi : X.N[i]? = some n) (hx : Loc X.env.scope n) (h : AV X e ρ A (f z)) (q : ∀ y, y = z → AS X W rest (ρ.set i (some (f y))) A E) (hs : swapsWith e (some (.Name n pos')) pos.line X.env = pure false := by rfl)
    (hf : X.fn n = true ∨ X.env.scope.names.lookup n = some .local := by first | exact .inl rfl | exact .inr rfl | assumption) : AS X W (.Assign [.Name n pos'] e pos :: rest) ρ A E := as_set hN hi hx (h.ae (q z rfl)) hs hf
/-- x op= e -/
theorem as_augv {op : Operator} {g : Int → Int → Int} {u w : Int} (hp : PIp X op (ipI g)) (hN : X.N.Nodup) (hi : X.N[i]? = some n) (hx : Loc X.env.scope n) (hv : ρ[i]? = some (some (.int u))) (h : AV X e ρ A (.int w)) (q : ∀ y, y = g u w → AS X W rest (ρ.set i (some (.int y))) A E)
    (hf : X.fn n = true ∨ X.env.scope.names.lookup n = some .local := by first | exact .inl rfl | exact .inr rfl | assumption) : AS X W (.AugAssign (.Name n pos') op e pos :: rest) ρ A E := as_cons (a1_augI hp hN hi hx hv h (q _ rfl) hf)
/-- if c: x = .. ; what is known of x behind it is Pv -/
theorem as_if1 {th el : List Stmt} {bb : Bool} (Pv : β → Prop) (i : Nat) (h : AT X c ρ A bb) (h1 : bb = true → AS X W th ρ A { E with nx := fun ρ' A' => ∃ y, Pv y ∧ ρ' = ρ.set i (some (f y)) ∧ A' = A })
    (h2 : bb = false → AS X W el ρ A { E with nx := fun ρ' A' => ∃ y, Pv y ∧ ρ' = ρ.set i (some (f y)) ∧ A' = A }) (hr : ∀ y, Pv y → AS X W rest (ρ.set i (some (f y))) A E) : AS X W (.If c th el pos :: rest) ρ A E :=
  as_ifm _ h h1 h2 fun ρ' A' ⟨y, hy, e1, e2⟩ => by subst e1 e2; exact hr y hy
end
/-! ### by value -/
abbrev fzs {β : Type} (f : β → D) (xs : List β) : D := .fz (xs.map f)
section
variable {β γ : Type} {f : β → D} {g : γ → D} {xs ys : List β} {zs : List γ} {i : Int}
theorem getD_mapF (d0 : β) {i : Nat} (h : i < xs.length) : (xs.map f).getD i .non = f (xs.getD i d0) := by
  rw [List.getD_eq_getElem?_getD, List.getD_eq_getElem?_getD, List.getElem?_map, List.getElem?_eq_getElem h]
  rfl
theorem av_ixF (d0 : β) (ha : AV X a ρ A (.fz (xs.map f))) (hb : AV X b ρ A (.int i)) (h0 : 0 ≤ i) (h1 : i < xs.length) (hs : PlainIx b := by intro _ _; rfl) : AV X (.Subscript a b pos) ρ A (f (xs.getD i.toNat d0)) := av_ixL ha hb IsL.fz (atG d0 h0 h1) hs
theorem av_ixN (d0 : β) {n : Nat} (ha : AV X a ρ A (.fz (xs.map f))) (hb : AV X b ρ A (.int i)) (e : i = (n : Int)) (h1 : n < xs.length) (hs : PlainIx b := by intro _ _; rfl) : AV X (.Subscript a b pos) ρ A (f (xs.getD n d0)) := by
  subst e
  exact av_ixL ha hb IsL.fz (atG d0 (Int.natCast_nonneg n) (by omega)) hs
/-- from the end -/
theorem av_ixB (d0 : β) {n : Nat} (ha : AV X a ρ A (.fz (xs.map f))) (hb : AV X b ρ A (.int i)) (e : i = -(n : Int)) (h0 : 0 < n) (h1 : n ≤ xs.length) (hs : PlainIx b := by intro _ _; rfl) : AV X (.Subscript a b pos) ρ A (f (xs.getD (xs.length - n) d0)) := by
  refine av_ixL ha hb IsL.fz ?_ hs
  unfold atI
  have e' : ixN (xs.map f).length i = some (xs.length - n) := by
    rw [List.length_map]
    unfold ixN
    rw [if_neg (by omega), if_pos (by omega)]
    congr 1
    omega
  rw [e']
  show (xs.map f)[xs.length - n]? = _
  rw [List.getElem?_map, List.getD_eq_getElem?_getD, List.getElem?_eq_getElem (show xs.length - n < xs.length by omega)]
  rfl
theorem av_lenF (hg : Gl X "len") (hm : X.mg "len" = none) (h : AV X a ρ A (.fz (xs.map f))) (hs : starEach [a] X.env = [(false, eval a X.env)] := by rfl) : AV X (.Call (.Name "len" p0) [a] [] pos) ρ A (.int (xs.length : Nat)) := by
  have := av_lenL (pos := pos) (p0 := p0) hg hm h IsL.fz hs
  rw [List.length_map] at this
  exact this
theorem av_lenD (hg : Gl X "len") (hm : X.mg "len" = none) (h : AV X a ρ A x) (hl : IsL A x (xs.map f)) (hs : starEach [a] X.env = [(false, eval a X.env)] := by rfl) : AV X (.Call (.Name "len" p0) [a] [] pos) ρ A (.int (xs.length : Nat)) := by
  have := av_lenL (pos := pos) (p0 := p0) hg hm h hl hs
  rw [List.length_map] at this
  exact this
theorem av_listF (hg : Gl X "list") (hm : X.mg "list" = none) (h : AV X a ρ A x) (hl : IsL A x (xs.map f)) (hs : starEach [a] X.env = [(false, eval a X.env)] := by rfl) : AV X (.Call (.Name "list" p0) [a] [] pos) ρ A (.fz (xs.map f)) := AL.av (al_listL hg hm h hl hs)
theorem av_listT (hg : Gl X "list") (hm : X.mg "list" = none) (h : AV X a ρ A (.tup ds)) (hs : starEach [a] X.env = [(false, eval a X.env)] := by rfl) : AV X (.Call (.Name "list" p0) [a] [] pos) ρ A (.fz ds) := AL.av fun k q => ae_list hg hm (h.ae (.inr ⟨ds, rfl, q⟩)) hs
theorem av_tupleF (hg : Gl X "tuple") (hm : X.mg "tuple" = none) (h : AV X a ρ A x) (hl : IsL A x ds) (hs : starEach [a] X.env = [(false, eval a X.env)] := by rfl) : AV X (.Call (.Name "tuple" p0) [a] [] pos) ρ A (.tup ds) := AE.av (ae_tupleL hg hm (h.ae ⟨ds, hl, rfl, Ext.refl A⟩) hs)
theorem av_lst (h : AVs X es ρ A ds) (hl : ds.length ≤ sizeLine := by first | decide | exact Nat.le_of_ble_eq_true rfl) : AV X (.List es pos) ρ A (.fz ds) := (al_lst h hl).av
theorem av_sum {ns : List Int} (hc : X.calm = true) (hg : Gl X "sum") (hm : X.mg "sum" = none) (h : AV X a ρ A (.fz (ns.map D.int))) (hs : starEach [a] X.env = [(false, eval a X.env)] := by rfl) : AV X (.Call (.Name "sum" p0) [a] [] pos) ρ A (.int ns.sum) := AE.av (ae_sum hc hg hm (h.ae ⟨ns, IsL.fz, rfl, Ext.refl A⟩) hs)
theorem av_all {bs : List Bool} (hc : X.calm = true) (hg : Gl X "all") (hm : X.mg "all" = none) (h : AV X a ρ A (.fz (bs.map D.bl))) (hs : starEach [a] X.env = [(false, eval a X.env)] := by rfl) : AV X (.Call (.Name "all" p0) [a] [] pos) ρ A (.bl (bs.all id)) := AE.av (ae_all hc hg hm (h.ae ⟨bs, IsL.fz, rfl, Ext.refl A⟩) hs)
theorem av_any {bs : List Bool} (hc : X.calm = true) (hg : Gl X "any") (hm : X.mg "any" = none) (h : AV X a ρ A (.fz (bs.map D.bl))) (hs : starEach [a] X.env = [(false, eval a X.env)] := by rfl) : AV X (.Call (.Name "any" p0) [a] [] pos) ρ A (.bl (bs.any id)) := AE.av (ae_any hc hg hm (h.ae ⟨bs, IsL.fz, rfl, Ext.refl A⟩) hs)
/-- slices -/
def cutL {β : Type} (xs : List β) (lo hi : Option Int) : List β := (xs.drop (HT.sIx xs.length 0 lo)).take (HT.sIx xs.length xs.length hi - HT.sIx xs.length 0 lo)
theorem cutD_map (lo hi : Option Int) : cutD (xs.map f) lo hi = (cutL xs lo hi).map f := by
  unfold cutD cutL
  rw [List.length_map, List.map_take, List.map_drop]
theorem av_slF {lo hi : Option Expr} {lo' hi' : Option Int} {p2 : Pos} (h : AV X e ρ A x) (hl : IsL A x (xs.map f)) (hlo : AO' X lo ρ A lo') (hhi : AO' X hi ρ A hi') : AV X (.Subscript e (.Slice lo hi none p2) pos) ρ A (.fz ((cutL xs lo' hi').map f)) := by
  have := (al_slL (pos := pos) (p2 := p2) h hl hlo hhi).av
  rw [cutD_map] at this
  exact this
theorem cutL_none {β : Type} (xs : List β) : cutL xs none none = xs := by unfold cutL; rw [HT.sIx_none, HT.sIx_none]; simp
theorem cutL_drop {β : Type} (xs : List β) (n : Nat) : cutL xs (some (n : Int)) none = xs.drop n := by
  unfold cutL
  rw [HT.sIx_none, HT.sIx_nat]
  rcases Nat.le_total n xs.length with h | h
  · rw [Nat.min_eq_left h, List.take_of_length_le (by rw [List.length_drop]; omega)]
  · rw [Nat.min_eq_right h, List.drop_eq_nil_of_le h, List.drop_eq_nil_of_le (Nat.le_refl _)]; simp
theorem cutL_take {β : Type} (xs : List β) (n : Nat) : cutL xs none (some (n : Int)) = xs.take n := by
  unfold cutL
  rw [HT.sIx_none, HT.sIx_nat]
  rcases Nat.le_total n xs.length with h | h
  · rw [Nat.min_eq_left h]; simp
  · rw [Nat.min_eq_right h, List.take_of_length_le h]; simp
theorem av_rev {kk : Nat} {p1 p2 p3 : Pos} (h : AV X e ρ A x) (hl : IsL A x (xs.map f)) : AV X (.Subscript e (.Slice none none (some (.UnaryOp .USub (.Constant (.int 1) kk p1) p2)) p3) pos) ρ A (.fz (xs.reverse.map f)) := by
  rw [List.map_reverse]
  exact AL.av fun k q => ae_revL (h.ae ⟨_, hl, q⟩)
/-- xs + ys, whatever they are -/
def rCatR : R2 := fun x y H Q => ∃ l b xs zs, x = .ref l ∧ y = .ref b ∧ Rd H l (.lst xs) ∧ Rd H b (.lst zs) ∧ xs.length + zs.length ≤ sizeLine ∧ ∀ p, H p = none → Q (.ref p) (upd H p (.lst (xs ++ zs)))
theorem op_catR : OpR X (binaryOp .Add) rCatR := by
  intro pins s σ H x y v u Q I rx ry h
  obtain ⟨l, b, xs, zs, rfl, rfl, hH, hB, hz, q⟩ := h
  cases rx
  cases ry
  obtain ⟨z, its, n, r, e⟩ := hH.ok I.hok
  obtain ⟨z2, its2, n2, r2, e2⟩ := hB.ok I.hok
  have hl := r.length
  have hl2 := r2.length
  refine PySem.P.add_list e e2 ?_ (by rw [List.size_toArray, List.size_toArray]; omega)
  have ea : its.toArray ++ its2.toArray = (its ++ its2).toArray := by simp
  rw [ea]
  exact ⟨.ref _, _, I.lnew (t' := s.toks) (r.append r2) (by rw [List.length_append]; omega), rfl, q _ I.fresh⟩
inductive IsM (A : AH) : D → List D → Prop
  | ref {p : Addr} {ds : List D} (h : A p = some (.lst ds)) : IsM A (.ref p) ds
  | fz (ds : List D) : IsM A (.fz ds) ds
theorem IsM.rd {K : Frag} {A : AH} {H : Hp} {d : D} {ds : List D} {v : V} (l : IsM A d ds) (rv : Rp K H v d) (r : Rel K A H) : ∃ a vs, v = .ref a ∧ Rd H a (.lst vs) ∧ Rps K H vs ds := by
  cases l with
  | ref h =>
    obtain ⟨vs, e, q⟩ := r.lst h
    exact ⟨_, vs, rv.ref_of, .inl e, q⟩
  | fz =>
    obtain ⟨a, o, vs, rfl, h1, h2⟩ := rv.fz_of
    exact ⟨a, vs, rfl, .inr ⟨o, h1⟩, h2⟩
theorem IsM.l {A : AH} {d : D} {ds : List D} (l : IsM A d ds) : IsL A d ds := by
  cases l with
  | ref h => exact IsL.of h
  | fz => exact IsL.fz
theorem ae_catR (h : AE X a ρ A fun x A1 => AE X b ρ A1 fun y A2 => ∃ xs ys, IsM A2 x xs ∧ IsM A2 y ys ∧ xs.length + ys.length ≤ sizeLine ∧ ∀ z, A2 z = none → k (.ref z) (aupd A2 z (.lst (xs ++ ys)))) : AE X (.BinOp a .Add b pos) ρ A k :=
  ae_op op_catR (h.mono fun x A1 h1 => h1.mono fun y A2 ⟨xs, ys, h2, h3, hz, hk⟩ v u H r1 r2 l Q qq => by
    obtain ⟨p, vs, rfl, g1, g2⟩ := h2.rd r1 l
    obtain ⟨q, ws, rfl, g3, g4⟩ := h3.rd r2 l
    exact ⟨p, q, vs, ws, rfl, rfl, g1, g3, by rw [g2.length, g4.length]; exact hz, fun z hz => qq _ _ _ _ (TS.new hz) (.ref z) (l.newL hz (g2.append g4)).2 (hk z (l.none hz))⟩)
theorem av_cat (ha : AV X a ρ A x) (hb : AV X b ρ A y) (h1 : IsM A x (xs.map f)) (h2 : IsM A y (ys.map f)) (hz : xs.length + ys.length ≤ sizeLine) : AV X (.BinOp a .Add b pos) ρ A (.fz ((xs ++ ys).map f)) := by
  rw [List.map_append]
  exact AL.av fun k q => ae_catR (ha.ae (hb.ae ⟨_, _, h1, h2, by rw [List.length_map, List.length_map]; exact hz, q⟩))
/-- [..] * n -/
theorem av_rep {n : Int} (ha : AL X a ρ A (xs.map f)) (hb : ∀ A', Ext A A' → AV X b ρ A' (.int n)) (h0 : 0 ≤ n) (h1 : n ≤ 1000) (hz : xs.length ≤ 1000) : AV X (.BinOp a .Mult b pos) ρ A (.fz ((List.replicate n.toNat xs).flatten.map f)) := by
  refine AL.av fun k q => ae_op op_rep (AE.weak (ha.ae fun p hp => ⟨_, Ext.refl _, (hb _ (Ext.new hp)).ae fun v u H r1 r2 l Q qq => ?_⟩))
  rw [r1.ref_of, r2.int_of]
  obtain ⟨vs, g1, g2⟩ := l.lst aupd_same
  have hl : vs.length = xs.length := by rw [g2.length, List.length_map]
  refine ⟨p, n, vs, rfl, rfl, g1, by omega, by omega, ?_, fun z hz' => ?_⟩
  · rw [hl]
    refine Nat.le_trans (Nat.mul_le_mul hz (show n.toNat ≤ 1000 by omega)) (by decide)
  · have e : ∀ m : Nat, Rps X.K H (List.replicate m vs).flatten ((List.replicate m xs).flatten.map f) := by
      intro m
      induction m with
      | zero => exact .nil
      | succ m ih => rw [List.replicate_succ, List.replicate_succ, List.flatten_cons, List.flatten_cons, List.map_append]; exact g2.append ih
    have hx : Ext (aupd A z (.lst ((List.replicate n.toNat xs).flatten.map f))) (aupd (aupd A p (.lst (xs.map f))) z (.lst ((List.replicate n.toNat xs).flatten.map f))) := (Ext.new hp).upd _ _
    exact qq _ _ _ _ (TS.new hz') (.ref z) ((l.newL hz' (e n.toNat)).2.sub hx) (q z ((Ext.new hp).none (l.none hz')))
/-! ### walks -/
variable {tg : Expr} {kI : AH → (AH → Prop) → Nat → (Nat → D) → Prop}
theorem Wk.to {K : Frag} {H0 : Hp} {J : It} {G G' : AH → Prop} {n : Nat} {f f' : Nat → D} (w : Wk K H0 J G n f) (h : ∀ i, i < n → f i = f' i) (hG : ∀ A, G' A → G A) : Wk K H0 J G' n f' :=
  ⟨fun i H A hi t r g => w.go i H A hi t r (hG A g), fun i H A x H' hi t r g y => by rw [← h i hi]; exact w.yl i H A x H' hi t r (hG A g) y, fun H A t r g => w.st H A t r (hG A g)⟩
theorem AI.to {iter : Expr} (h : AI X tg iter ρ A fun A1 G n f => ∃ G' f', (∀ i, i < n → f i = f' i) ∧ (∀ A, G' A → G A) ∧ kI A1 G' n f') : AI X tg iter ρ A kI := fun σ H s R q =>
  h σ H s R fun J H' A' G n f t l wk ⟨G', f', e, hG, h2⟩ => q J H' A' G' n f' t l (wk.to e hG) h2
theorem ai_F (d0 : β) (h : AV X a ρ A (.fz (xs.map f))) (q : kI A (fun _ => True) xs.length (fun i => f (xs.getD i d0))) : AI X tg a ρ A kI :=
  AI.to (ai_list (h.ae ⟨_, IsL.fz, fun _ => True, fun i => f (xs.getD i d0), fun i hi => getD_mapF d0 (by rw [List.length_map] at hi; exact hi), fun _ _ => IsL.fz, by rw [List.length_map]; exact q⟩))
theorem ai_C {ns : List Int} (h : AV X a ρ A (.cl (ns.map D.int))) (q : kI A (fun _ => True) ns.length (fun i => .int (ns.getD i 0))) : AI X tg a ρ A kI :=
  AI.to (ai_list (h.ae ⟨_, IsL.cl, fun _ => True, fun i => .int (ns.getD i 0), fun i hi => getD_mapF 0 (by rw [List.length_map] at hi; exact hi), fun _ _ => IsL.cl, by rw [List.length_map]; exact q⟩))
/-- over a list that may be written, but not here -/
theorem ai_D (d0 : β) (h : AV X a ρ A x) (hl : IsL A x (xs.map f)) (q : kI A (fun A' => IsL A' x (xs.map f)) xs.length (fun i => f (xs.getD i d0))) : AI X tg a ρ A kI :=
  AI.to (ai_list (h.ae ⟨_, hl, _, fun i => f (xs.getD i d0), fun i hi => getD_mapF d0 (by rw [List.length_map] at hi; exact hi), fun _ z => z, by rw [List.length_map]; exact q⟩))
theorem ai_revF (d0 : β) (hg : Gl X "reversed") (hm : X.mg "reversed" = none) (h : AV X a ρ A (.fz (xs.map f))) (q : kI A (fun _ => True) xs.length (fun i => f (xs.getD (xs.length - 1 - i) d0)))
    (hs : starEach [a] X.env = [(false, eval a X.env)] := by rfl) : AI X tg (.Call (.Name "reversed" p0) [a] [] pos) ρ A kI :=
  AI.to (ai_rev hg hm (h.ae ⟨_, IsL.fz, fun _ => True, fun i => f (xs.getD (xs.length - 1 - i) d0), fun i hi => by rw [List.length_map] at hi ⊢; exact getD_mapF d0 (by omega), fun _ _ => IsL.fz, by rw [List.length_map]; exact q⟩) hs)
theorem ai_enumF (d0 : β) {elts : List Expr} {kk : Nat} {tpos : Pos} (hg : Gl X "enumerate") (hm : X.mg "enumerate" = none) (h : AV X a ρ A (.fz (xs.map f))) (q : kI A (fun _ => True) xs.length (fun i => .tup [.int (i : Nat), f (xs.getD i d0)]))
    (hs : starEach [a] X.env = [(false, eval a X.env)] := by rfl) : AI X (.Tuple elts kk tpos) (.Call (.Name "enumerate" p0) [a] [] pos) ρ A kI :=
  AI.to (ai_enum hg hm (h.ae ⟨_, IsL.fz, fun _ => True, fun i => .tup [.int (i : Nat), f (xs.getD i d0)], fun i hi => by dsimp only; rw [getD_mapF d0 (by rw [List.length_map] at hi; exact hi)], fun _ _ => IsL.fz, by rw [List.length_map]; exact q⟩) hs)
theorem ai_zipF (d0 : β) (e0 : γ) {elts : List Expr} {kk : Nat} {tpos : Pos} (hg : Gl X "zip") (hm : X.mg "zip" = none) (h : AVs X [a, b] ρ A [.fz (xs.map f), .fz (zs.map g)]) (q : kI A (fun _ => True) (min xs.length zs.length) (fun i => .tup [f (xs.getD i d0), g (zs.getD i e0)]))
    (hs : starEach [a, b] X.env = (false, eval a X.env) :: starEach [b] X.env := by rfl) (hpl : (backTo pos (starEach [b] X.env)).any (·.1) = false := by rfl) : AI X (.Tuple elts kk tpos) (.Call (.Name "zip" p0) [a, b] [] pos) ρ A kI :=
  AI.to (ai_zip hg hm (h.aes ⟨_, _, _, _, rfl, IsL.fz, IsL.fz, fun _ => True, fun i => .tup [f (xs.getD i d0), g (zs.getD i e0)], fun i hi => by
    rw [List.length_map, List.length_map] at hi
    dsimp only
    rw [getD_mapF d0 (by omega), getD_mapF e0 (by omega)], fun _ _ => ⟨IsL.fz, IsL.fz⟩, by rw [List.length_map, List.length_map]; exact q⟩) hs hpl)
theorem ai_rng {j : Int} (hg : Gl X "range") (hm : X.mg "range" = none) (h : AV X a ρ A (.int j)) (h1 : -(2 ^ 62) ≤ j) (h2 : j < 2 ^ 62) (q : kI A (fun _ => True) j.toNat (fun i => .int (i : Int))) (hs : starEach [a] X.env = [(false, eval a X.env)] := by rfl) :
    AI X tg (.Call (.Name "range" p0) [a] [] pos) ρ A kI :=
  ai_range1 hg hm (h.ae ⟨j, rfl, h1, h2, by
    have e : (fun i : Nat => D.int (0 + (i : Int))) = fun i : Nat => D.int (i : Int) := by
      funext i
      rw [Int.zero_add]
    rw [e]
    exact q⟩) hs
/-! ### comprehensions, by value -/
variable {iter elt : Expr} {is : List Nat} {scope : Scope} {own : List (Str × Nat)} {F : Nat → β} {n : Nat}
theorem ac_F (hsub : ∀ i ∈ is, i ∈ own.map (·.2))
    (hi : AI X tg iter ρ A fun A1 G n' h => n' = n ∧ A1 = A ∧ n ≤ sizeLine ∧ (∀ A', Ext A1 A' → G A') ∧
      ∀ i, i < n → ∃ ρ2, ∀ (s : Shared) (H : Hp) (C : Addr) (cl : List (Str × Addr)) (fp : List Addr), AG (X.blk s H scope (compEnvC scope cl C X.env) fp) tg is (wipeR ρ (own.map (·.2))) (h i) ρ2 ∧ ∀ A', Ext A1 A' → AV (X.blk s H scope (compEnvC scope cl C X.env) fp) elt ρ2 A' (f (F i)))
    (q : ∀ p, A p = none → k (.ref p) (aupd A p (.lst (((List.range n).map F).map f)))) : AC X elt tg iter scope own ρ A k :=
  ac_lcP (g := fun i => f (F i)) hsub (fun σ H s R qq => hi σ H s R fun J H' A' G n h t l wk ⟨h1, h2, h3⟩ => qq J H' A' G n h t l wk ⟨h1, by rw [h2]; exact Ext.refl A, h3⟩) fun p hp => by
    have e := q p hp
    rw [List.map_map] at e
    exact e
theorem al_lcF (hc : X.calm = true) (hN : X.N.Nodup) (ok : BlkOk X.N X.env.scope scope own) (hsub : ∀ i ∈ is, i ∈ own.map (·.2))
    (hi : AI X tg iter ρ A fun A1 G n' h => n' = n ∧ A1 = A ∧ n ≤ sizeLine ∧ (∀ A', Ext A1 A' → G A') ∧
      ∀ i, i < n → ∃ ρ2, ∀ (s : Shared) (H : Hp) (C : Addr) (cl : List (Str × Addr)) (fp : List Addr), AG (X.blk s H scope (compEnvC scope cl C X.env) fp) tg is (wipeR ρ (own.map (·.2))) (h i) ρ2 ∧ ∀ A', Ext A1 A' → AV (X.blk s H scope (compEnvC scope cl C X.env) fp) elt ρ2 A' (f (F i)))
    (hs : ∀ x, foldedSetIterable iter X.env x = pure x := by intro _; rfl) : AL X (.ListComp elt [⟨tg, iter, [], 0⟩] scope pos) ρ A (((List.range n).map F).map f) := fun k q => (ac_F (is := is) (own := own) hsub hi q).ae hc hN ok hs
theorem AC.frz (h : AC X elt tg iter scope own ρ A fun d A' => ∃ A0 v, Ext A0 A' ∧ Fr A0 A' d v ∧ k v A0) (hc : X.calm = true) (hN : X.N.Nodup) (ok : BlkOk X.N X.env.scope scope own) (hs : ∀ x, foldedSetIterable iter X.env x = pure x := by intro _; rfl) : AE X (.ListComp elt [⟨tg, iter, [], 0⟩] scope pos) ρ A k := AE.frz (h.ae hc hN ok hs)
theorem av_lcF (hc : X.calm = true) (hN : X.N.Nodup) (ok : BlkOk X.N X.env.scope scope own) (hsub : ∀ i ∈ is, i ∈ own.map (·.2))
    (hi : AI X tg iter ρ A fun A1 G n' h => n' = n ∧ A1 = A ∧ n ≤ sizeLine ∧ (∀ A', Ext A1 A' → G A') ∧
      ∀ i, i < n → ∃ ρ2, ∀ (s : Shared) (H : Hp) (C : Addr) (cl : List (Str × Addr)) (fp : List Addr), AG (X.blk s H scope (compEnvC scope cl C X.env) fp) tg is (wipeR ρ (own.map (·.2))) (h i) ρ2 ∧ ∀ A', Ext A1 A' → AV (X.blk s H scope (compEnvC scope cl C X.env) fp) elt ρ2 A' (f (F i)))
    (hs : ∀ x, foldedSetIterable iter X.env x = pure x := by intro _; rfl) : AV X (.ListComp elt [⟨tg, iter, [], 0⟩] scope pos) ρ A (.fz (((List.range n).map F).map f)) := (al_lcF hc hN ok hsub hi hs).av
/-- name = [..] on one line: the list is locked at once -/
theorem as_setLcF {i : Nat} {y : Str} {py spos : Pos} (hc : X.calm = true) (hN : X.N.Nodup) (hy : X.N[i]? = some y) (hyl : X.env.scope.names.lookup y = some .local)
    (hsw : swapsWith (.ListComp elt [⟨tg, iter, [], 0⟩] scope pos) (some (.Name y py)) spos.line X.env = pure true) (ok : BlkOk X.N X.env.scope scope own) (hlen : i < ρ.length) (hsub : ∀ i ∈ is, i ∈ own.map (·.2))
    (hi : AI X tg iter ρ A fun A1 G n' h => n' = n ∧ A1 = A ∧ n ≤ sizeLine ∧ (∀ A', Ext A1 A' → G A') ∧
      ∀ i, i < n → ∃ ρ2, ∀ (s : Shared) (H : Hp) (C : Addr) (cl : List (Str × Addr)) (fp : List Addr), AG (X.blk s H scope (compEnvC scope cl C X.env) fp) tg is (wipeR ρ (own.map (·.2))) (h i) ρ2 ∧ ∀ A', Ext A1 A' → AV (X.blk s H scope (compEnvC scope cl C X.env) fp) elt ρ2 A' (f (F i)))
    (q : ∀ zs, zs = (List.range n).map F → AS X W rest (ρ.set i (some (.fz (zs.map f)))) A E)
    (hs : ∀ x, foldedSetIterable iter X.env x = pure x := by intro _; rfl) : AS X W (.Assign [.Name y py] (.ListComp elt [⟨tg, iter, [], 0⟩] scope pos) spos :: rest) ρ A E :=
  as_setLc hc hN hy hyl hsw ok (ac_F hsub hi fun p hp => as_fz i (List.getElem?_set_self hlen) hp (by rw [List.set_set]; exact q _ rfl)) hs
theorem as_setLcN {α : Type} {enc : α → D} {Q : Nat → α → Prop} {i : Nat} {y : Str} {py spos : Pos} (hc : X.calm = true) (hN : X.N.Nodup) (hy : X.N[i]? = some y) (hyl : X.env.scope.names.lookup y = some .local)
    (hsw : swapsWith (.ListComp elt [⟨tg, iter, [], 0⟩] scope pos) (some (.Name y py)) spos.line X.env = pure true) (ok : BlkOk X.N X.env.scope scope own) (hlen : i < ρ.length) (hsub : ∀ i ∈ is, i ∈ own.map (·.2))
    (hi : AI X tg iter ρ A fun A1 G n' f => n' = n ∧ Ext A A1 ∧ n ≤ sizeLine ∧ (∀ A', Ext A1 A' → G A') ∧
      ∀ i, i < n → ∃ ρ2, ∀ (s : Shared) (H : Hp) (C : Addr) (cl : List (Str × Addr)) (fp : List Addr), AG (X.blk s H scope (compEnvC scope cl C X.env) fp) tg is (wipeR ρ (own.map (·.2))) (f i) ρ2 ∧ ∀ A', Ext A1 A' → AN (X.blk s H scope (compEnvC scope cl C X.env) fp) elt ρ2 A' enc (Q i))
    (q : ∀ as : List α, as.length = n → (∀ i a, as[i]? = some a → Q i a) → AS X W rest (ρ.set i (some (.fz (as.map enc)))) A E)
    (hs : ∀ x, foldedSetIterable iter X.env x = pure x := by intro _; rfl) : AS X W (.Assign [.Name y py] (.ListComp elt [⟨tg, iter, [], 0⟩] scope pos) spos :: rest) ρ A E :=
  as_setLc hc hN hy hyl hsw ok (ac_lcN hsub hi fun as hl hq p hp => as_fz i (List.getElem?_set_self hlen) hp (by rw [List.set_set]; exact q as hl hq)) hs
end
/-- the results of calls, locked -/
theorem fz_k {ds : List D} {k : AK} {q : Addr} (hq : A q = none) (h : k (.fz ds) A) : ∃ A0 v, Ext A0 (aupd A q (.lst ds)) ∧ Fr A0 (aupd A q (.lst ds)) (.ref q) v ∧ k v A0 := ⟨A, .fz ds, Ext.new hq, .lst hq aupd_same (Frs.refl ds), h⟩
end
/-! ### == -/
def eL {α : Type} [DecidableEq α] (e : Enc α) (he : ∀ x, (e.p x).depth ≤ 10) : Enc (List α) where
  d := fun xs => .fz (xs.map e.d)
  p := fun xs => .list (xs.map e.p)
  py := fun A xs => .lst IsL.fz (pysAll e A xs)
  lay := fun xs => layAll e xs
  dep := fun xs => by
    have : ∀ xs : List α, PyData.depthAll (xs.map e.p) ≤ 10 := by
      intro xs
      induction xs with
      | nil => exact Nat.zero_le _
      | cons x xs ih => rw [List.map_cons, PyData.depthAll]; exact Nat.max_le.mpr ⟨he x, ih⟩
    show PyData.depthAll (xs.map e.p) + 1 ≤ 20
    have := this xs
    omega
  eqv := fun x y => eqvAll e x y
theorem map_range_get {α β : Type} (xs : List α) (d0 : α) (F : α → β) : (List.range xs.length).map (fun i => F (xs.getD i d0)) = xs.map F := by
  apply List.ext_getElem?
  intro i
  rw [List.getElem?_map, List.getElem?_map]
  by_cases hi : i < xs.length
  · rw [List.getElem?_range hi, List.getElem?_eq_getElem hi]
    show some (F (xs.getD i d0)) = _
    rw [List.getD_eq_getElem?_getD, List.getElem?_eq_getElem hi]
    rfl
  · rw [List.getElem?_eq_none (by simp; omega), List.getElem?_eq_none (by omega)]
    rfl
end C7
namespace C7
open PySem PySem.Spec PyProof.Rows L2
/-! ### how deep data are -/
def Dp {α : Type} [DecidableEq α] (e : Enc α) (n : Nat) : Prop := ∀ x, (e.p x).depth ≤ n
theorem Dp.up {α : Type} [DecidableEq α] {e : Enc α} {n : Nat} (h : Dp e n) (hn : n ≤ 10) : ∀ x, (e.p x).depth ≤ 10 := fun x => Nat.le_trans (h x) hn
theorem dn_eI : Dp eI 0 := fun _ => Nat.zero_le _
theorem dn_eB : Dp eB 0 := fun _ => Nat.zero_le _
theorem dn_eR : Dp eR 1 := fun q => by
  show PyData.depthAll [.int _, .int _] + 1 ≤ 1
  simp [PyData.depthAll, PyData.depth]
theorem dn_eT {α β : Type} [DecidableEq α] [DecidableEq β] {e : Enc α} {f : Enc β} {m n : Nat} (h1 : Dp e m) (h2 : Dp f n) {he : ∀ x, (e.p x).depth ≤ 10} {hf : ∀ x, (f.p x).depth ≤ 10} : Dp (eT e f he hf) (max m n + 1) := fun x => by
  show PyData.depthAll [e.p x.1, f.p x.2] + 1 ≤ _
  rw [PyData.depthAll, PyData.depthAll, PyData.depthAll]
  have := h1 x.1
  have := h2 x.2
  omega
theorem dn_eP : Dp eP 2 := dn_eT dn_eR dn_eR
theorem dn_eL {α : Type} [DecidableEq α] {e : Enc α} {n : Nat} (h : Dp e n) {he : ∀ x, (e.p x).depth ≤ 10} : Dp (eL e he) (n + 1) := fun xs => by
  have : ∀ xs : List α, PyData.depthAll (xs.map e.p) ≤ n := by
    intro xs
    induction xs with
    | nil => exact Nat.zero_le _
    | cons x xs ih => rw [List.map_cons, PyData.depthAll]; exact Nat.max_le.mpr ⟨h x, ih⟩
  show PyData.depthAll (xs.map e.p) + 1 ≤ n + 1
  have := this xs
  omega
/-- a list of two, of unlike kinds -/
def eH {α β : Type} [DecidableEq α] [DecidableEq β] (e : Enc α) (f : Enc β) (he : ∀ x, (e.p x).depth ≤ 10) (hf : ∀ x, (f.p x).depth ≤ 10) : Enc (α × β) where
  d := fun x => .fz [e.d x.1, f.d x.2]
  p := fun x => .list [e.p x.1, f.p x.2]
  py := fun A x => .lst IsL.fz (.cons (e.py A _) (.cons (f.py A _) .nil))
  lay := fun x => by
    show PyData.canLayAll0 [e.p x.1, f.p x.2] = true
    rw [PyData.canLayAll0, PyData.canLayAll0, PyData.canLayAll0, e.lay, f.lay]
    rfl
  dep := fun x => by
    show PyData.depthAll [e.p x.1, f.p x.2] + 1 ≤ 20
    rw [PyData.depthAll, PyData.depthAll, PyData.depthAll]
    have := he x.1
    have := hf x.2
    omega
  eqv := fun x y => by
    show PyData.eqvAll [e.p x.1, f.p x.2] [e.p y.1, f.p y.2] = _
    rw [PyData.eqvAll, PyData.eqvAll, PyData.eqvAll, e.eqv, f.eqv, Bool.eq_iff_iff]
    simp [Prod.ext_iff]
/-! ### argument lists: no star -/
def isStar : Expr → Bool
  | .Starred _ _ => true
  | _ => false
theorem star_cons {e : Expr} {es : List Expr} {env : Env} (h : isStar e = false) : starEach (e :: es) env = (false, eval e env) :: starEach es env := by
  cases e <;> first | rfl | cases h
def intsOf : List Expr → Option (List Int)
  | [] => some []
  | .Constant (.int i) _ _ :: es => match intsOf es with
    | some ns => some (i :: ns)
    | none => none
  | _ :: _ => none
section
variable {X : Cx} {ρ : Ro} {A : AH} {e : Expr} {es : List Expr} {d : D} {ds : List D}
theorem avs_c (h : AV X e ρ A d) (hr : AVs X es ρ A ds) (hs : isStar e = false := by rfl) : AVs X (e :: es) ρ A (d :: ds) := avs_cons h hr (star_cons hs)
theorem avs_ints : ∀ {es : List Expr} {ns : List Int}, intsOf es = some ns → AVs X es ρ A (ns.map D.int)
  | [], ns, h => by
    cases h
    exact avs_nil
  | .Constant (.int i) j p :: es, ns, h => by
    unfold intsOf at h
    cases q : intsOf es with
    | none => rw [q] at h; cases h
    | some ms =>
      rw [q] at h
      cases h
      exact avs_c av_int (avs_ints q) rfl
end
section
variable {X : Cx} {W : WX} {ρ : Ro} {A A0 : AH} {e a b c : Expr} {es : List Expr} {pos p0 : Pos} {d x y v : D} {k : AK} {ds : List D} {sts rest : List Stmt} {E : AEnds}
variable {β γ : Type} {f : β → D} {g : γ → D} {xs ys : List β} {zs : List γ} {i : Int}
theorem av_ixD (d0 : β) (ha : AV X a ρ A x) (hl : IsL A x (xs.map f)) (hb : AV X b ρ A (.int i)) (h0 : 0 ≤ i) (h1 : i < xs.length) (hs : PlainIx b := by intro _ _; rfl) : AV X (.Subscript a b pos) ρ A (f (xs.getD i.toNat d0)) := av_ixL ha hb hl (atG d0 h0 h1) hs
theorem av_ixDN (d0 : β) {n : Nat} (ha : AV X a ρ A x) (hl : IsL A x (xs.map f)) (hb : AV X b ρ A (.int i)) (e : i = (n : Int)) (h1 : n < xs.length) (hs : PlainIx b := by intro _ _; rfl) : AV X (.Subscript a b pos) ρ A (f (xs.getD n d0)) := by
  subst e
  exact av_ixL ha hb hl (atG d0 (Int.natCast_nonneg n) (by omega)) hs
theorem av_ixDB (d0 : β) {n : Nat} (ha : AV X a ρ A x) (hl : IsL A x (xs.map f)) (hb : AV X b ρ A (.int i)) (e : i = -(n : Int)) (h0 : 0 < n) (h1 : n ≤ xs.length) (hs : PlainIx b := by intro _ _; rfl) : AV X (.Subscript a b pos) ρ A (f (xs.getD (xs.length - n) d0)) := by
  refine av_ixL ha hb hl ?_ hs
  unfold atI
  have e' : ixN (xs.map f).length i = some (xs.length - n) := by
    rw [List.length_map]
    unfold ixN
    rw [if_neg (by omega), if_pos (by omega)]
    congr 1
    omega
  rw [e']
  show (xs.map f)[xs.length - n]? = _
  rw [List.getElem?_map, List.getD_eq_getElem?_getD, List.getElem?_eq_getElem (show xs.length - n < xs.length by omega)]
  rfl
theorem ae_slF {lo hi : Option Expr} {lo' hi' : Option Int} {p2 : Pos} (hlo : ∀ A1, Ext A A1 → AO' X lo ρ A1 lo') (hhi : ∀ A1, Ext A A1 → AO' X hi ρ A1 hi') (h : AE X e ρ A fun d A1 => ∃ xs : List β, Ext A A1 ∧ IsL A1 d (xs.map f) ∧ k (.fz ((cutL xs lo' hi').map f)) A1) :
    AE X (.Subscript e (.Slice lo hi none p2) pos) ρ A k := AE.frz (ae_slL hlo hhi (h.mono fun d A1 ⟨xs, ex, hl, hk⟩ => ⟨_, ex, hl, fun q hq => fz_k hq (by rw [cutD_map]; exact hk)⟩))
theorem av_mulS {i j : Int} (ha : AV X a ρ A (.int i)) (hb : AV X b ρ A (.int j)) (hc : CMul i j) : AV X (.BinOp a .Mult b pos) ρ A (.int (i * j)) := av_opI (g := fun i j => i * j) op_mul ha hb hc
theorem rep_flat {β : Type} (z : β) : ∀ n : Nat, (List.replicate n [z]).flatten = List.replicate n z
  | 0 => rfl
  | n + 1 => by rw [List.replicate_succ, List.flatten_cons, rep_flat z n, List.replicate_succ]; rfl
theorem av_rep1 {z : β} {n : Int} {lpos : Pos} (ha : AV X a ρ A (f z)) (hb : ∀ A', Ext A A' → AV X b ρ A' (.int n)) (h0 : 0 ≤ n) (h1 : n ≤ 1000) (hs : isStar a = false := by rfl) : AV X (.BinOp (.List [a] lpos) .Mult b pos) ρ A (.fz ((List.replicate n.toNat z).map f)) := by
  have := av_rep (pos := pos) (f := f) (xs := [z]) (al_lst (pos := lpos) (avs_c ha avs_nil hs) (Nat.le_of_ble_eq_true rfl)) hb h0 h1 (by simp)
  rw [rep_flat] at this
  exact this
variable {tg : Expr} {kI : AH → (AH → Prop) → Nat → (Nat → D) → Prop}
theorem ai_T (d0 : β) (h : AV X a ρ A (.tup (xs.map f))) (q : kI A (fun _ => True) xs.length (fun i => f (xs.getD i d0))) : AI X tg a ρ A kI :=
  AI.to (ai_tup h ⟨fun _ => True, fun i => f (xs.getD i d0), fun i hi => getD_mapF d0 (by rw [List.length_map] at hi; exact hi), fun _ z => z, by rw [List.length_map]; exact q⟩)
theorem ai_revD (d0 : β) (hg : Gl X "reversed") (hm : X.mg "reversed" = none) (h : AV X a ρ A x) (hl : IsL A x (xs.map f)) (q : kI A (fun A' => IsL A' x (xs.map f)) xs.length (fun i => f (xs.getD (xs.length - 1 - i) d0)))
    (hs : starEach [a] X.env = [(false, eval a X.env)] := by rfl) : AI X tg (.Call (.Name "reversed" p0) [a] [] pos) ρ A kI :=
  AI.to (ai_rev hg hm (h.ae ⟨_, hl, _, fun i => f (xs.getD (xs.length - 1 - i) d0), fun i hi => by rw [List.length_map] at hi ⊢; exact getD_mapF d0 (by omega), fun _ z => z, by rw [List.length_map]; exact q⟩) hs)
theorem ai_enumD (d0 : β) {elts : List Expr} {kk : Nat} {tpos : Pos} (hg : Gl X "enumerate") (hm : X.mg "enumerate" = none) (h : AV X a ρ A x) (hl : IsL A x (xs.map f)) (q : kI A (fun A' => IsL A' x (xs.map f)) xs.length (fun i => .tup [.int (i : Nat), f (xs.getD i d0)]))
    (hs : starEach [a] X.env = [(false, eval a X.env)] := by rfl) : AI X (.Tuple elts kk tpos) (.Call (.Name "enumerate" p0) [a] [] pos) ρ A kI :=
  AI.to (ai_enum hg hm (h.ae ⟨_, hl, _, fun i => .tup [.int (i : Nat), f (xs.getD i d0)], fun i hi => by dsimp only; rw [getD_mapF d0 (by rw [List.length_map] at hi; exact hi)], fun _ z => z, by rw [List.length_map]; exact q⟩) hs)
theorem ai_zipD (d0 : β) (e0 : γ) {elts : List Expr} {kk : Nat} {tpos : Pos} (hg : Gl X "zip") (hm : X.mg "zip" = none) (h : AVs X [a, b] ρ A [x, y]) (hl : IsL A x (xs.map f)) (hl' : IsL A y (zs.map g)) (q : kI A (fun A' => IsL A' x (xs.map f) ∧ IsL A' y (zs.map g)) (min xs.length zs.length) (fun i => .tup [f (xs.getD i d0), g (zs.getD i e0)]))
    (hs : starEach [a, b] X.env = (false, eval a X.env) :: starEach [b] X.env := by rfl) (hpl : (backTo pos (starEach [b] X.env)).any (·.1) = false := by rfl) : AI X (.Tuple elts kk tpos) (.Call (.Name "zip" p0) [a, b] [] pos) ρ A kI :=
  AI.to (ai_zip hg hm (h.aes ⟨_, _, _, _, rfl, hl, hl', _, fun i => .tup [f (xs.getD i d0), g (zs.getD i e0)], fun i hi => by
    rw [List.length_map, List.length_map] at hi
    dsimp only
    rw [getD_mapF d0 (by omega), getD_mapF e0 (by omega)], fun _ z => z, by rw [List.length_map, List.length_map]; exact q⟩) hs hpl)
/-- while: a number falls -/
theorem a1_whileN {body : List Stmt} (hp : PassesOwn (model X.prog X.w) X.A X.env X.xe) (Pv : Nat → Ro → AH → Prop) (h0 : ∃ n, Pv n ρ A)
    (hs : ∀ n ρ A, Pv n ρ A → AET X c ρ A fun bb A1 => (bb = true → AS X W body ρ A1 { E with nx := fun ρ' A' => ∃ m, m < n ∧ Pv m ρ' A', ct := fun ρ' A' => ∃ m, m < n ∧ Pv m ρ' A', bk := E.nx }) ∧ (bb = false → E.nx ρ A1)) : A1 X W (.While c body [] pos) ρ A E := fun σ H s D q =>
  tm1_of (ps_while hp (pt_tm c) (pss_tm body)) (by
    obtain ⟨n0, h0⟩ := h0
    refine ⟨fun m σ' H' => ∃ ρ' A', TS H H' ∧ Sr X.K ρ' A' σ' H' ∧ Pv m ρ' A', ⟨_, ρ, A, TS.refl H, s, h0⟩, ?_⟩
    rintro m σ1 H1 ⟨ρ1, A1, t1, s1, p1⟩
    refine hs m ρ1 A1 p1 σ1 H1 s1 _ fun bb H2 A2 t2 l2 kd => ?_
    cases bb with
    | true =>
      refine iteT ⟨fun σ' H' => ∃ ρ' A', TS H H' ∧ Sr X.K ρ' A' σ' H' ∧ ∃ m', m' < m ∧ Pv m' ρ' A', ?_, ?_⟩
      · rintro σ' H' ⟨ρ', A', t', s', m', lt, p'⟩
        exact ⟨m', lt, ρ', A', t', s', p'⟩
      · have t12 := t1.trans t2
        refine kd.1 rfl σ1 H2 (s1.mono t2 l2) _ ⟨fun ρ' A' σ' H' t' s' p' => ⟨ρ', A', t12.trans t', s', p'⟩, fun _ _ _ _ t' => q.rt _ _ _ _ (t12.trans t'), fun _ _ _ _ t' => q.nx _ _ _ _ (t12.trans t'), fun ρ' A' σ' H' t' s' p' => ⟨ρ', A', t12.trans t', s', p'⟩, fun _ _ _ _ _ t' => q.xc _ _ _ _ _ (t12.trans t')⟩
    | false => exact iteF (q.nx ρ1 A2 σ1 H2 (t1.trans t2) (s1.mono t2 l2) (kd.2 rfl)))
theorem AS.ro {ρ' : Ro} (h : AS X W sts ρ' A E) (q : ρ = ρ' := by rfl) : AS X W sts ρ A E := q ▸ h
/-! ### == of data that may be written -/
section
variable {α : Type} [DecidableEq α] (e : Enc α) {u w : α} {lv : Nat} {d' : D}
theorem Enc.shp (x : α) : SeqAt.shaped (e.p x) = true := C7.shp (e.lay x) (Nat.le_trans (e.dep x) (by decide))
theorem at_eqW (hr : Room lv X.A) (ha : AV X a ρ A d) (hb : AV X b ρ A d') (h : Py A d (e.p u)) (h' : Py A d' (e.p w)) : AT X (.Compare a [.Eq] [b] pos) ρ A (decide (u = w)) := by
  rw [← e.eqv]
  exact AET.at' (aet_eqP hr (ha.ae (hb.ae ⟨_, _, h, h', e.shp u, e.shp w, rfl, Ext.refl _⟩)))
theorem at_neW (hr : Room lv X.A) (ha : AV X a ρ A d) (hb : AV X b ρ A d') (h : Py A d (e.p u)) (h' : Py A d' (e.p w)) : AT X (.Compare a [.NotEq] [b] pos) ρ A (!decide (u = w)) := by
  rw [← e.eqv]
  exact AET.at' (aet_neP hr (ha.ae (hb.ae ⟨_, _, h, h', e.shp u, e.shp w, rfl, Ext.refl _⟩)))
theorem av_eqW (hr : Room lv X.A) (ha : AV X a ρ A d) (hb : AV X b ρ A d') (h : Py A d (e.p u)) (h' : Py A d' (e.p w)) : AV X (.Compare a [.Eq] [b] pos) ρ A (.bl (decide (u = w))) := by
  rw [← e.eqv]
  exact av_eqP hr ha hb h h' (e.shp u) (e.shp w)
theorem av_neW (hr : Room lv X.A) (ha : AV X a ρ A d) (hb : AV X b ρ A d') (h : Py A d (e.p u)) (h' : Py A d' (e.p w)) : AV X (.Compare a [.NotEq] [b] pos) ρ A (.bl (!decide (u = w))) := by
  rw [← e.eqv]
  exact av_neP hr ha hb h h' (e.shp u) (e.shp w)
end
theorem fz_k2 {ds es : List D} {p q : Addr} (hp : A p = none) (hq : aupd A p (.lst ds) q = none) (h : k (.tup [.fz ds, .fz es]) A) : ∃ A0 v, Ext A0 (aupd (aupd A p (.lst ds)) q (.lst es)) ∧ Fr A0 (aupd (aupd A p (.lst ds)) q (.lst es)) (.tup [.ref p, .ref q]) v ∧ k v A0 := by
  have ne : q ≠ p := fun z => by rw [z, aupd_same] at hq; cases hq
  refine ⟨A, _, (Ext.new hp).trans (Ext.new hq), .tup (.cons (.lst hp ?_ (Frs.refl ds)) (.cons (.lst ?_ aupd_same (Frs.refl es)) .nil)), h⟩
  · rw [aupd_ne (fun z => ne z.symm), aupd_same]
  · rw [aupd_ne ne] at hq
    exact hq
/-! ### heaps with lists that are written -/
theorem aupd_other {p q : Addr} {o u o' : AO} (h : aupd A p o q = none) : aupd (aupd (aupd A p o) q u) p o' = aupd (aupd A p o') q u := by
  have ne : q ≠ p := fun z => by rw [z, aupd_same] at h; cases h
  funext b
  unfold aupd
  by_cases h1 : b = p
  · subst h1
    rw [if_pos rfl, if_neg (fun z => ne z.symm), if_pos rfl]
  · rw [if_neg h1]
    by_cases h2 : b = q
    · rw [if_pos h2, if_pos h2]
    · rw [if_neg h2, if_neg h2, if_neg h1, if_neg h1]
theorem aupd_none {p q : Addr} {o : AO} (u : AO) (h : aupd A p o q = none) : aupd A p u q = none := by
  have ne : q ≠ p := fun z => by rw [z, aupd_same] at h; cases h
  rw [aupd_ne ne] at h ⊢
  exact h
theorem aupd_get {p q : Addr} {o u : AO} (h : aupd A p o q = none) : aupd (aupd A p o) q u p = some o := by
  have ne : q ≠ p := fun z => by rw [z, aupd_same] at h; cases h
  rw [aupd_ne (fun z => ne z.symm), aupd_same]
theorem aupd_free {p q : Addr} {o : AO} (h : aupd A p o q = none) : A q = none := by
  have ne : q ≠ p := fun z => by rw [z, aupd_same] at h; cases h
  rw [aupd_ne ne] at h
  exact h
theorem getD_last {β : Type} {xs : List β} {z d0 : β} {n : Nat} (h : xs.length = n) : (xs ++ [z]).getD (n + [z].length - 1) d0 = z := by
  subst h
  rw [List.getD_eq_getElem?_getD]
  simp
theorem map_snoc {β : Type} (f : β → D) (xs : List β) (z : β) : xs.map f ++ [f z] = (xs ++ [z]).map f := by rw [List.map_append]; rfl
end
end C7
namespace C7
open PySem PySem.Spec PyProof.Rows L2
theorem rowsR_len (t : Rat) (row : List Pt) : (rowsR t row).length = row.length := by unfold rowsR; simp
theorem rowsR_get {t : Rat} {row : List Pt} {j : Nat} (h : j < row.length) : (rowsR t row).getD j [] = iterR t row j := by
  unfold rowsR
  rw [List.getD_eq_getElem?_getD, List.getElem?_map, List.getElem?_range h]
  rfl
theorem rowsR_last {t : Rat} {row : List Pt} (h : 0 < row.length) : (rowsR t row).getD ((rowsR t row).length - 1) [] = iterR t row (row.length - 1) := by
  rw [rowsR_len]
  exact rowsR_get (by omega)
/-- the first points of rows; the last points, from the last row back -/
def firstsR (rs : List (List Pt)) : List Pt := (List.range rs.length).map fun i => (rs.getD i []).getD 0 (0, 0)
def lastsR (rs : List (List Pt)) : List Pt := (List.range rs.length).map fun i => (rs.getD (rs.length - 1 - i) []).getD ((rs.getD (rs.length - 1 - i) []).length - 1) (0, 0)
/-! ### going between, on sequences: polar points -/
def nx (t : Rat) (x : Nat → Rat) : Nat → Rat := fun i => x i + t * (x (i + 1) - x i)
def ops : List Rat → (Nat → Rat) → Nat → Rat
  | [], x => x
  | t :: ts, x => ops ts (nx t x)
theorem nx_comm (s t : Rat) (x : Nat → Rat) : nx s (nx t x) = nx t (nx s x) := by funext i; unfold nx; grind
theorem nx_0 (x : Nat → Rat) : nx 0 x = x := by funext i; unfold nx; grind
theorem nx_1 (x : Nat → Rat) : nx 1 x = fun i => x (i + 1) := by funext i; unfold nx; grind
theorem nx_aff (a b u : Rat) (x : Nat → Rat) : nx (a + u * (b - a)) x = fun i => nx a x i + u * (nx b x i - nx a x i) := by funext i; unfold nx; grind
theorem nx_lin (t u : Rat) (x y : Nat → Rat) : nx t (fun i => x i + u * (y i - x i)) = fun i => nx t x i + u * (nx t y i - nx t x i) := by funext i; unfold nx; grind
theorem ops_nx (ts : List Rat) : ∀ (t : Rat) (x : Nat → Rat), ops ts (nx t x) = nx t (ops ts x) := by
  induction ts with
  | nil => intro t x; rfl
  | cons a ts ih => intro t x; show ops ts (nx a (nx t x)) = nx t (ops ts (nx a x)); rw [nx_comm, ih]
theorem ops_app (ts us : List Rat) : ∀ x : Nat → Rat, ops (ts ++ us) x = ops us (ops ts x) := by
  induction ts with
  | nil => intro x; rfl
  | cons a ts ih => intro x; show ops (ts ++ us) (nx a x) = ops us (ops ts (nx a x)); rw [ih]
theorem ops_comm (ts us : List Rat) : ∀ x : Nat → Rat, ops ts (ops us x) = ops us (ops ts x) := by
  induction us with
  | nil => intro x; rfl
  | cons a us ih => intro x; show ops ts (ops us (nx a x)) = ops us (nx a (ops ts x)); rw [ih, ops_nx]
theorem ops_perm {ts us : List Rat} (h : ts.Perm us) : ∀ x : Nat → Rat, ops ts x = ops us x := by
  induction h with
  | nil => intro x; rfl
  | cons a _ ih => intro x; exact ih (nx a x)
  | swap a b l => intro x; show ops l (nx a (nx b x)) = ops l (nx b (nx a x)); rw [nx_comm]
  | trans _ _ ih1 ih2 => intro x; exact (ih1 x).trans (ih2 x)
theorem ops_loc (ts : List Rat) : ∀ (x y : Nat → Rat) (k : Nat), (∀ i, i ≤ ts.length → x (k + i) = y (k + i)) → ops ts x k = ops ts y k := by
  induction ts with
  | nil => intro x y k h; exact h 0 (Nat.le_refl _)
  | cons a ts ih =>
    intro x y k h
    refine ih _ _ k fun i hi => ?_
    unfold nx
    have h1 := h i (by rw [List.length_cons]; omega)
    have h2 := h (i + 1) (by rw [List.length_cons]; omega)
    rw [h1, show k + i + 1 = k + (i + 1) by omega, h2]
theorem ops_lin (ts : List Rat) : ∀ (u : Rat) (x y : Nat → Rat), ops ts (fun i => x i + u * (y i - x i)) = fun i => ops ts x i + u * (ops ts y i - ops ts x i) := by
  induction ts with
  | nil => intro u x y; rfl
  | cons a ts ih => intro u x y; show ops ts (nx a _) = _; rw [nx_lin, ih]; rfl
theorem ops_rep0 (m : Nat) : ∀ x : Nat → Rat, ops (List.replicate m 0) x = x := by
  induction m with
  | zero => intro x; rfl
  | succ m ih => intro x; show ops (List.replicate m 0) (nx 0 x) = x; rw [nx_0, ih]
theorem ops_rep1 (m : Nat) : ∀ (x : Nat → Rat) (i : Nat), ops (List.replicate m 1) x i = x (i + m) := by
  induction m with
  | zero => intro x i; rfl
  | succ m ih => intro x i; show ops (List.replicate m 1) (nx 1 x) i = _; rw [nx_1, ih]; exact congrArg x (by omega)
theorem cas_ops (t : Rat) (x : Nat → Rat) : ∀ j, cas t x j = ops (List.replicate j t) x := by
  intro j
  induction j with
  | zero => rfl
  | succ j ih =>
    show (fun i => cas t x j i + t * (cas t x j (i + 1) - cas t x j i)) = ops (List.replicate j t) (nx t x)
    rw [ops_nx, ← ih]
    rfl
def px (row : List Pt) (k : Nat) : Rat := (gp row k).1
def py (row : List Pt) (k : Nat) : Rat := (gp row k).2
/-- rows at one share after the other -/
def foldR (ts : List Rat) (row : List Pt) : List Pt := ts.foldl (fun r t => nextR t r) row
theorem foldR_len (ts : List Rat) : ∀ row : List Pt, (foldR ts row).length = row.length - ts.length := by
  induction ts with
  | nil => intro row; rfl
  | cons a ts ih => intro row; show (foldR ts (nextR a row)).length = _; rw [ih, nextR_len, List.length_cons]; omega
theorem px_next {t : Rat} {row : List Pt} {k : Nat} (h : k + 1 < row.length) : px (nextR t row) k = nx t (px row) k ∧ py (nextR t row) k = nx t (py row) k := by
  unfold px py
  rw [nextR_gp (by omega)]
  exact ⟨rfl, rfl⟩
theorem foldR_ops (ts : List Rat) : ∀ (row : List Pt) (i : Nat), i + ts.length < row.length → px (foldR ts row) i = ops ts (px row) i ∧ py (foldR ts row) i = ops ts (py row) i := by
  induction ts with
  | nil => intro row i h; exact ⟨rfl, rfl⟩
  | cons a ts ih =>
    intro row i h
    rw [List.length_cons] at h
    have := ih (nextR a row) i (by rw [nextR_len]; omega)
    show px (foldR ts (nextR a row)) i = ops ts (nx a (px row)) i ∧ py (foldR ts (nextR a row)) i = ops ts (nx a (py row)) i
    rw [this.1, this.2]
    exact ⟨ops_loc ts _ _ i fun j hj => (px_next (by omega)).1, ops_loc ts _ _ i fun j hj => (px_next (by omega)).2⟩
def polarR (ts : List Rat) (row : List Pt) : Pt := gp (foldR ts row) 0
theorem polarR_eq {ts : List Rat} {row : List Pt} (h : ts.length < row.length) : polarR ts row = (ops ts (px row) 0, ops ts (py row) 0) := by
  have := foldR_ops ts row 0 (by omega)
  exact Prod.ext this.1 this.2
theorem polarR_perm {ts us : List Rat} {row : List Pt} (p : ts.Perm us) (h : ts.length < row.length) : polarR ts row = polarR us row := by
  rw [polarR_eq h, polarR_eq (by rw [← p.length_eq]; exact h), ops_perm p, ops_perm p]
theorem pointR_polar {t : Rat} {row : List Pt} (h : 0 < row.length) : pointR t row = polarR (List.replicate (row.length - 1) t) row := by
  rw [polarR_eq (by simp; omega)]
  have e := iterR_cas t row (row.length - 1) 0 (by omega)
  rw [cas_ops, cas_ops] at e
  exact Prod.ext e.1 e.2
/-- one share between two -/
theorem polarR_mid {a b u : Rat} {ts us : List Rat} {row : List Pt} (h : ts.length + us.length + 1 < row.length + 0) : polarR (ts ++ (a + u * (b - a)) :: us) row = onWay (polarR (ts ++ a :: us) row) (polarR (ts ++ b :: us) row) u := by
  have hl : ∀ c : Rat, (ts ++ c :: us).length < row.length := fun c => by rw [List.length_append, List.length_cons]; omega
  rw [polarR_eq (hl _), polarR_eq (hl _), polarR_eq (hl _)]
  have key : ∀ x : Nat → Rat, ops (ts ++ (a + u * (b - a)) :: us) x 0 = ops (ts ++ a :: us) x 0 + u * (ops (ts ++ b :: us) x 0 - ops (ts ++ a :: us) x 0) := by
    intro x
    rw [ops_app, ops_app, ops_app]
    show ops us (nx (a + u * (b - a)) (ops ts x)) 0 = ops us (nx a (ops ts x)) 0 + u * (ops us (nx b (ops ts x)) 0 - ops us (nx a (ops ts x)) 0)
    rw [nx_aff, ops_lin]
  unfold onWay
  rw [key, key]
/-! ### stretches -/
def Yy (s t : Rat) (n : Nat) (x : Nat → Rat) (k : Nat) : Rat := ops (List.replicate (n - k) s ++ List.replicate k t) x 0
theorem nx_Yy {s t u : Rat} {n : Nat} {x : Nat → Rat} {k : Nat} (h : k + 1 ≤ n) : nx u (Yy s t n x) k = Yy s t (n - 1) (nx (s + u * (t - s)) x) k := by
  unfold nx Yy
  rw [show n - k = (n - 1 - k) + 1 by omega, show n - (k + 1) = n - 1 - k by omega]
  generalize n - 1 - k = m
  have e1 : ops (List.replicate (m + 1) s ++ List.replicate k t) x = ops (List.replicate m s ++ List.replicate k t) (nx s x) := rfl
  have e2 : ops (List.replicate m s ++ List.replicate (k + 1) t) x = ops (List.replicate m s ++ List.replicate k t) (nx t x) := by
    rw [List.replicate_succ', ← List.append_assoc, ops_app, ops_nx]
    rfl
  rw [e1, e2]
  show _ = ops (List.replicate m s ++ List.replicate k t) (nx (s + u * (t - s)) x) 0
  rw [nx_aff, ops_lin]
theorem ops_Yy {s t : Rat} (us : List Rat) : ∀ (n : Nat) (x : Nat → Rat) (k : Nat), k + us.length ≤ n → ops us (Yy s t n x) k = Yy s t (n - us.length) (ops (us.map fun u => s + u * (t - s)) x) k := by
  induction us with
  | nil => intro n x k h; rfl
  | cons u us ih =>
    intro n x k h
    rw [List.length_cons] at h ⊢
    show ops us (nx u (Yy s t n x)) k = _
    rw [ops_loc us _ (Yy s t (n - 1) (nx (s + u * (t - s)) x)) k fun i hi => nx_Yy (by omega), ih (n - 1) _ k (by omega), show n - 1 - us.length = n - (us.length + 1) by omega]
    rfl
def stretchR (s t : Rat) (row : List Pt) : List Pt := (List.range row.length).map fun k => polarR (List.replicate (row.length - 1 - k) s ++ List.replicate k t) row
theorem stretchR_len (s t : Rat) (row : List Pt) : (stretchR s t row).length = row.length := by unfold stretchR; simp
theorem stretchR_gp {s t : Rat} {row : List Pt} {k : Nat} (h : k < row.length) : gp (stretchR s t row) k = polarR (List.replicate (row.length - 1 - k) s ++ List.replicate k t) row := gp_map h
theorem stretchR_px {s t : Rat} {row : List Pt} {k : Nat} (h : k < row.length) : px (stretchR s t row) k = Yy s t (row.length - 1) (px row) k ∧ py (stretchR s t row) k = Yy s t (row.length - 1) (py row) k := by
  unfold px py
  rw [stretchR_gp h, polarR_eq (by simp; omega)]
  exact ⟨rfl, rfl⟩
theorem polar_stretch {s t : Rat} {us : List Rat} {row : List Pt} (h : us.length + 1 = row.length) : polarR us (stretchR s t row) = polarR (us.map fun u => s + u * (t - s)) row := by
  rw [polarR_eq (by rw [stretchR_len]; omega), polarR_eq (by rw [List.length_map]; omega)]
  have h1 : ops us (px (stretchR s t row)) 0 = ops us (Yy s t (row.length - 1) (px row)) 0 := ops_loc us _ _ 0 fun i hi => (stretchR_px (by omega)).1
  have h2 : ops us (py (stretchR s t row)) 0 = ops us (Yy s t (row.length - 1) (py row)) 0 := ops_loc us _ _ 0 fun i hi => (stretchR_px (by omega)).2
  rw [h1, h2, ops_Yy us _ _ 0 (by omega), ops_Yy us _ _ 0 (by omega), show row.length - 1 - us.length = 0 by omega]
  rfl
theorem row_ext {a b : List Pt} (h : a.length = b.length) (e : ∀ k, k < a.length → gp a k = gp b k) : a = b := by
  apply List.ext_getElem?
  intro i
  by_cases hi : i < a.length
  · have := e i hi
    unfold gp at this
    rw [List.getD_eq_getElem?_getD, List.getD_eq_getElem?_getD, List.getElem?_eq_getElem hi, List.getElem?_eq_getElem (by omega)] at this
    rw [List.getElem?_eq_getElem hi, List.getElem?_eq_getElem (by omega)]
    exact congrArg some this
  · rw [List.getElem?_eq_none (by omega), List.getElem?_eq_none (by omega)]
theorem stretch_stretch (s t u v : Rat) (row : List Pt) : stretchR u v (stretchR s t row) = stretchR (s + u * (t - s)) (s + v * (t - s)) row := by
  refine row_ext (by rw [stretchR_len, stretchR_len, stretchR_len]) fun k hk => ?_
  rw [stretchR_len, stretchR_len] at hk
  rw [stretchR_gp (by rw [stretchR_len]; exact hk), stretchR_gp hk, stretchR_len, polar_stretch (by simp; omega), List.map_append, List.map_replicate, List.map_replicate]
theorem point_stretch {s t u : Rat} {row : List Pt} (h : 0 < row.length) : pointR u (stretchR s t row) = pointR (s + u * (t - s)) row := by
  rw [pointR_polar (by rw [stretchR_len]; exact h), stretchR_len, polar_stretch (by simp; omega), List.map_replicate, pointR_polar h]
theorem stretch_01 (row : List Pt) : stretchR 0 1 row = row := by
  refine row_ext (stretchR_len _ _ _) fun k hk => ?_
  rw [stretchR_len] at hk
  rw [stretchR_gp hk, polarR_eq (by simp; omega), ops_app, ops_app, ops_rep0, ops_rep0, ops_rep1, ops_rep1, Nat.zero_add]
  rfl
theorem gp_rev {row : List Pt} {k : Nat} (h : k < row.length) : gp row.reverse k = gp row (row.length - 1 - k) := by
  unfold gp
  rw [List.getD_eq_getElem?_getD, List.getD_eq_getElem?_getD, List.getElem?_reverse h]
theorem stretch_10 (row : List Pt) : stretchR 1 0 row = row.reverse := by
  refine row_ext (by rw [stretchR_len, List.length_reverse]) fun k hk => ?_
  rw [stretchR_len] at hk
  rw [stretchR_gp hk, polarR_eq (by simp; omega), ops_app, ops_app, ops_rep0, ops_rep0, ops_rep1, ops_rep1, Nat.zero_add, gp_rev hk]
  rfl
theorem firsts_stretch (t : Rat) (row : List Pt) : firstsR (rowsR t row) = stretchR 0 t row := by
  have hl : (firstsR (rowsR t row)).length = row.length := by unfold firstsR; simp [rowsR_len]
  refine row_ext (by rw [hl, stretchR_len]) fun k hk => ?_
  rw [hl] at hk
  have e1 : gp (firstsR (rowsR t row)) k = gp (iterR t row k) 0 := by
    unfold firstsR
    rw [gp_map (by rw [rowsR_len]; exact hk), rowsR_get hk]
    rfl
  have e := iterR_cas t row k 0 (by omega)
  rw [cas_ops, cas_ops] at e
  rw [e1, stretchR_gp hk, polarR_eq (by simp; omega), ops_app, ops_app, ops_rep0, ops_rep0]
  exact Prod.ext e.1 e.2
theorem lasts_stretch (t : Rat) (row : List Pt) : lastsR (rowsR t row) = stretchR t 1 row := by
  have hl : (lastsR (rowsR t row)).length = row.length := by unfold lastsR; simp [rowsR_len]
  refine row_ext (by rw [hl, stretchR_len]) fun k hk => ?_
  rw [hl] at hk
  have e1 : gp (lastsR (rowsR t row)) k = gp (iterR t row (row.length - 1 - k)) k := by
    unfold lastsR
    rw [gp_map (by rw [rowsR_len]; exact hk), rowsR_len, rowsR_get (by omega), iterR_len, show row.length - (row.length - 1 - k) - 1 = k by omega]
    rfl
  have e := iterR_cas t row (row.length - 1 - k) k (by omega)
  rw [cas_ops, cas_ops] at e
  rw [e1, stretchR_gp hk, polarR_eq (by simp; omega), ops_app, ops_app, ops_rep1, ops_rep1, Nat.zero_add]
  exact Prod.ext e.1 e.2
/-! ### sizes of rows -/
def Rw (m : Nat) (row : List Pt) : Prop := ∃ B : Int, B ≠ 0 ∧ B.natAbs < 2 ^ m ∧ ∀ p ∈ row, OvP B m p
theorem Rw.up {m n : Nat} {row : List Pt} (h : Rw m row) (e : m ≤ n) : Rw n row := by
  obtain ⟨B, h0, h1, h2⟩ := h
  exact ⟨B, h0, bt_le h1 e, fun p hp => (h2 p hp).up e⟩
theorem Rw.of {B : Int} {b m : Nat} {row : List Pt} (h0 : 0 < B) (h1 : B < 2 ^ b) (hb : b ≤ m) (h : ∀ p ∈ row, OvP B m p) : Rw m row :=
  ⟨B, by omega, bt_le (bt_small b (by have : (0 : Int) < 2 ^ b := Int.pow_pos (by decide); omega) h1) hb, h⟩
theorem Rw.sz {m : Nat} {row : List Pt} (h : Rw m row) : ∀ p ∈ row, SzP m p := by
  obtain ⟨B, h0, h1, h2⟩ := h
  exact fun p hp => ovp_sz h0 h1 (h2 p hp)
theorem Rw.next {m n : Nat} {row : List Pt} {t : Rat} (h : Rw m row) (ht : Sz n t) : Rw (m + n + 2) (nextR t row) := by
  obtain ⟨B, h0, h1, h2⟩ := h
  refine ⟨B * (t.den : Int), Int.mul_ne_zero h0 (by have := den_pos t; omega), bt_le (bt_mul h1 ht.den) (by omega), fun p hp => ?_⟩
  unfold nextR at hp
  rw [List.mem_map] at hp
  obtain ⟨k, hk, rfl⟩ := hp
  rw [List.mem_range] at hk
  exact ovp_on h0 (h2 _ (gp_mem (by omega))) (h2 _ (gp_mem (by omega))) ht
theorem Rw.iter {m n : Nat} {row : List Pt} {t : Rat} (h : Rw m row) (ht : Sz n t) : ∀ j, Rw (m + j * (n + 2)) (iterR t row j) := by
  intro j
  induction j with
  | zero => exact h.up (by omega)
  | succ j ih => exact (ih.next ht).up (by rw [Nat.succ_mul]; omega)
theorem Rw.fold {n : Nat} (ts : List Rat) : ∀ {m : Nat} {row : List Pt}, Rw m row → (∀ t ∈ ts, Sz n t) → Rw (m + ts.length * (n + 2)) (foldR ts row) := by
  induction ts with
  | nil => intro m row h _; exact h.up (by simp)
  | cons a ts ih =>
    intro m row h hz
    exact (ih (h.next (hz a (by simp))) fun t ht => hz t (by simp [ht])).up (by rw [List.length_cons, Nat.succ_mul]; omega)
/-- what going on by rows asks -/
theorem Rw.rows {m n M l : Nat} {row : List Pt} {t : Rat} (h : Rw m row) (ht : Sz n t) (hl : row.length ≤ l + 1) (hM : m + l * (n + 2) ≤ M) : ∀ j, j < row.length → ∀ p ∈ iterR t row j, SzP M p := fun j hj p hp =>
  ((h.iter ht j).up (Nat.le_trans (by have : j * (n + 2) ≤ l * (n + 2) := Nat.mul_le_mul_right _ (by omega); omega) hM)).sz p hp
theorem foldR_app' (ts us : List Rat) (row : List Pt) : foldR (ts ++ us) row = foldR us (foldR ts row) := List.foldl_append
theorem Rw.polar {m n M l : Nat} {row : List Pt} {ts : List Rat} (h : Rw m row) (hz : ∀ t ∈ ts, Sz n t) (hl : ts.length ≤ l) (hM : m + l * (n + 2) ≤ M) : ∀ j, ∀ p ∈ foldR (ts.take j) row, SzP M p := fun j p hp =>
  ((h.fold (ts.take j) fun t ht => hz t (List.mem_of_mem_take ht)).up (Nat.le_trans (by
    have h1 : (ts.take j).length ≤ l := by rw [List.length_take]; omega
    have : (ts.take j).length * (n + 2) ≤ l * (n + 2) := Nat.mul_le_mul_right _ h1
    omega) hM)).sz p hp
theorem Rw.polar1 {m n M l : Nat} {row : List Pt} {ts : List Rat} (h : Rw m row) (hz : ∀ t ∈ ts, Sz n t) (hl : ts.length ≤ l) (hl' : ts.length < row.length) (hM : m + l * (n + 2) ≤ M) : SzP M (polarR ts row) := by
  have := h.polar hz hl hM ts.length (polarR ts row)
  rw [List.take_length] at this
  exact this (gp_mem (by rw [foldR_len]; omega))
theorem foldR_take {ts : List Rat} {row : List Pt} {i : Nat} (h : i < ts.length) : nextR (ts.getD i 0) (foldR (ts.take i) row) = foldR (ts.take (i + 1)) row := by
  rw [List.take_succ, List.getElem?_eq_getElem h, foldR_app', List.getD_eq_getElem?_getD, List.getElem?_eq_getElem h]
  rfl
theorem Rw.tail {m : Nat} {row row' : List Pt} (h : Rw m row) (hs : ∀ p ∈ row', p ∈ row) : Rw m row' := by
  obtain ⟨B, h0, h1, h2⟩ := h
  exact ⟨B, h0, h1, fun p hp => h2 p (hs p hp)⟩
theorem Ov.lift {B c : Int} {m b : Nat} {q : Rat} (h : Ov B m q) (hc : c ≠ 0) (hb : c.natAbs < 2 ^ b) : Ov (B * c) (m + b) q := by
  obtain ⟨N, e, hN⟩ := h
  refine ⟨N * c, ?_, bt_mul hN hb⟩
  have c1 : ((N * c : Int) : Rat) = (N : Rat) * c := by push_cast; rfl
  have c2 : ((B * c : Int) : Rat) = (B : Rat) * c := by push_cast; rfl
  have hc' : (c : Rat) ≠ 0 := fun z => hc (by exact_mod_cast z)
  rw [e, c1, c2]
  grind
theorem OvP.lift {B c : Int} {m b : Nat} {q : Pt} (h : OvP B m q) (hc : c ≠ 0) (hb : c.natAbs < 2 ^ b) : OvP (B * c) (m + b) q := ⟨h.1.lift hc hb, h.2.lift hc hb⟩
def dens : List Rat → Int
  | [] => 1
  | t :: ts => (t.den : Int) * dens ts
theorem dens_ne : ∀ ts : List Rat, dens ts ≠ 0
  | [] => by decide
  | t :: ts => Int.mul_ne_zero (by have := den_pos t; omega) (dens_ne ts)
theorem dens_app : ∀ ts us : List Rat, dens (ts ++ us) = dens ts * dens us
  | [], us => by show _ = 1 * _; rw [Int.one_mul]; rfl
  | t :: ts, us => by show (t.den : Int) * dens (ts ++ us) = (t.den : Int) * dens ts * dens us; rw [dens_app ts us, Int.mul_assoc]
theorem dens_bt {n : Nat} : ∀ ts : List Rat, (∀ t ∈ ts, Sz n t) → (dens ts).natAbs < 2 ^ (ts.length * n + 1)
  | [], _ => by show (1 : Int).natAbs < 2 ^ (0 * n + 1); rw [Nat.zero_mul]; decide
  | t :: ts, h => by
    show ((t.den : Int) * dens ts).natAbs < _
    refine bt_le (bt_mul (h t (by simp)).den (dens_bt ts fun u hu => h u (by simp [hu]))) ?_
    rw [List.length_cons, Nat.succ_mul]
    omega
theorem foldR_ov {n : Nat} (ts : List Rat) : ∀ {m : Nat} {B : Int} {row : List Pt}, B ≠ 0 → (∀ p ∈ row, OvP B m p) → (∀ t ∈ ts, Sz n t) → ∀ p ∈ foldR ts row, OvP (B * dens ts) (m + ts.length * (n + 2)) p := by
  induction ts with
  | nil => intro m B row h0 h _ p hp; exact ((show B * dens [] = B from Int.mul_one B) ▸ h p hp).up (by simp)
  | cons a ts ih =>
    intro m B row h0 h hz p hp
    have e : B * dens (a :: ts) = (B * (a.den : Int)) * dens ts := (Int.mul_assoc _ _ _).symm
    rw [e]
    refine (ih (m := m + n + 2) (Int.mul_ne_zero h0 (by have := den_pos a; omega)) (fun q hq => ?_) (fun t ht => hz t (by simp [ht])) p hp).up (by rw [List.length_cons, Nat.succ_mul]; omega)
    unfold nextR at hq
    rw [List.mem_map] at hq
    obtain ⟨k, hk, rfl⟩ := hq
    rw [List.mem_range] at hk
    exact ovp_on h0 (h _ (gp_mem (by omega))) (h _ (gp_mem (by omega))) (hz a (by simp))
theorem sz_rep {n a : Nat} {s : Rat} (h : Sz n s) : ∀ u ∈ List.replicate a s, Sz n u := fun u hu => by rw [(List.mem_replicate.mp hu).2]; exact h
theorem sz_rep2 {n a b : Nat} {s t : Rat} (hs : Sz n s) (ht : Sz n t) : ∀ u ∈ List.replicate a s ++ List.replicate b t, Sz n u := fun u hu => by
  rcases List.mem_append.mp hu with h | h
  · exact sz_rep hs u h
  · exact sz_rep ht u h
theorem foldR_app (ts us : List Rat) (row : List Pt) : foldR (ts ++ us) row = foldR us (foldR ts row) := List.foldl_append
theorem Rw.stretch {m n n' l : Nat} {row : List Pt} {s t : Rat} (h : Rw m row) (hs : Sz n s) (ht : Sz n' t) (hl0 : 0 < row.length) (hl : row.length ≤ l + 1) : Rw (m + l * (n + n' + 2) + 2) (stretchR s t row) := by
  obtain ⟨B, h0, h1, h2⟩ := h
  have hN : row.length - 1 ≤ l := by omega
  have key : ∀ a b : Nat, a + b = row.length - 1 → OvP (B * (dens (List.replicate (row.length - 1) s) * dens (List.replicate (row.length - 1) t))) (m + l * (n + n' + 2) + 2) (polarR (List.replicate a s ++ List.replicate b t) row) := by
    intro a b hab
    have g1 := foldR_ov (n := n) (List.replicate a s) h0 h2 (sz_rep hs)
    have g2 := foldR_ov (n := n') (List.replicate b t) (Int.mul_ne_zero h0 (dens_ne _)) g1 (sz_rep ht) (polarR (List.replicate a s ++ List.replicate b t) row) (by
      have : polarR (List.replicate a s ++ List.replicate b t) row = gp (foldR (List.replicate b t) (foldR (List.replicate a s) row)) 0 := by unfold polarR; rw [foldR_app]
      rw [this]
      exact gp_mem (by rw [foldR_len, foldR_len]; simp; omega))
    have g3 := (g2.lift (dens_ne _) (dens_bt (List.replicate b s) (sz_rep hs))).lift (dens_ne _) (dens_bt (List.replicate a t) (sz_rep ht))
    have e : B * (dens (List.replicate (row.length - 1) s) * dens (List.replicate (row.length - 1) t)) = B * dens (List.replicate a s) * dens (List.replicate b t) * dens (List.replicate b s) * dens (List.replicate a t) := by
      have r1 : dens (List.replicate (row.length - 1) s) = dens (List.replicate a s) * dens (List.replicate b s) := by rw [← dens_app, List.replicate_append_replicate, hab]
      have r2 : dens (List.replicate (row.length - 1) t) = dens (List.replicate b t) * dens (List.replicate a t) := by rw [← dens_app, List.replicate_append_replicate, Nat.add_comm, hab]
      rw [r1, r2]
      grind
    rw [e]
    refine g3.up ?_
    simp only [List.length_replicate]
    have e1 : (a + b) * (n + n' + 2) ≤ l * (n + n' + 2) := Nat.mul_le_mul_right _ (by omega)
    have e2 : (a + b) * (n + n' + 2) = a * (n + 2) + b * (n' + 2) + b * n + a * n' := by grind
    omega
  refine ⟨B * (dens (List.replicate (row.length - 1) s) * dens (List.replicate (row.length - 1) t)), Int.mul_ne_zero h0 (Int.mul_ne_zero (dens_ne _) (dens_ne _)), ?_, fun p hp => ?_⟩
  · refine bt_le (bt_mul h1 (bt_mul (dens_bt _ (sz_rep hs)) (dens_bt _ (sz_rep ht)))) ?_
    simp only [List.length_replicate]
    have e1 : (row.length - 1) * n ≤ l * n := Nat.mul_le_mul_right _ hN
    have e3 : (row.length - 1) * n' ≤ l * n' := Nat.mul_le_mul_right _ hN
    have e2 : l * (n + n' + 2) = l * n + l * n' + l * 2 := by rw [Nat.mul_add, Nat.mul_add]
    omega
  · unfold stretchR at hp
    rw [List.mem_map] at hp
    obtain ⟨k, hk, rfl⟩ := hp
    rw [List.mem_range] at hk
    exact key _ _ (by omega)
theorem sz_mid2 {m n : Nat} {t u : Rat} (ht : Sz m t) (hu : Sz n u) : Sz (m + n + 2) (t + u * (1 - t)) := by
  have e := between_eq t 1 u
  refine sz_div (N := t.num * ((1 : Rat).den : Int) * (u.den : Int) + u.num * ((1 : Rat).num * (t.den : Int) - t.num * ((1 : Rat).den : Int))) (D := (t.den : Int) * ((1 : Rat).den : Int) * (u.den : Int)) ?_ e.symm ?_ ?_
  · have := den_pos t; have := den_pos u
    exact Int.mul_ne_zero (Int.mul_ne_zero (by omega) (by decide)) (by omega)
  · rw [show ((1 : Rat).den : Int) = 1 from rfl, show (1 : Rat).num = 1 from rfl, Int.mul_one, Int.one_mul]
    exact bt_le (bt_add (bt_mul ht.num hu.den) (bt_mul hu.num (bt_sub ht.den ht.num))) (by omega)
  · rw [show ((1 : Rat).den : Int) = 1 from rfl, Int.mul_one]
    exact bt_le (bt_mul ht.den hu.den) (by omega)
theorem sz_mid {m n : Nat} {p q t : Rat} (hp : Sz m p) (hq : Sz m q) (ht : Sz n t) : Sz (2 * m + n + 2) (p + t * (q - p)) := by
  have e := between_eq p q t
  refine sz_div (N := p.num * (q.den : Int) * (t.den : Int) + t.num * (q.num * (p.den : Int) - p.num * (q.den : Int))) (D := (p.den : Int) * (q.den : Int) * (t.den : Int)) ?_ e.symm ?_ ?_
  · have := den_pos p; have := den_pos q; have := den_pos t
    exact Int.mul_ne_zero (Int.mul_ne_zero (by omega) (by omega)) (by omega)
  · exact bt_le (bt_add (bt_mul (bt_mul hp.num hq.den) ht.den) (bt_mul ht.num (bt_sub (bt_mul hq.num hp.den) (bt_mul hp.num hq.den)))) (by omega)
  · exact bt_le (bt_mul (bt_mul hp.den hq.den) ht.den) (by omega)
theorem at2n {p : Pt} {i : Nat} (h : i < 2) : atI [sh p.1, sh p.2] (i : Int) = some (sh (sel p i)) := by
  match i, h with
  | 0, _ => rfl
  | 1, _ => rfl
/-- all but one are smaller -/
theorem Rw.fold2 {n n' : Nat} (ts : List Rat) : ∀ {m : Nat} {row : List Pt} (c : Nat), Rw m row → (∀ t ∈ ts, Sz n' t) → ts.countP (fun t => decide ¬ (t.num.natAbs < 2 ^ n ∧ t.den < 2 ^ n)) ≤ c → n ≤ n' → Rw (m + ts.length * (n + 2) + c * (n' - n)) (foldR ts row) := by
  induction ts with
  | nil => intro m row c h _ _ _; exact h.up (by simp)
  | cons a ts ih =>
    intro m row c h hz hc hn
    rw [List.countP_cons] at hc
    by_cases ha : a.num.natAbs < 2 ^ n ∧ a.den < 2 ^ n
    · rw [if_neg (by simp [ha])] at hc
      exact (ih c (h.next ⟨ha.1, ha.2⟩) (fun t ht => hz t (by simp [ht])) (by omega) hn).up (by rw [List.length_cons, Nat.succ_mul]; omega)
    · rw [if_pos (decide_eq_true ha)] at hc
      obtain ⟨c', rfl⟩ : ∃ c', c = c' + 1 := ⟨c - 1, by omega⟩
      exact (ih c' (h.next (hz a (by simp))) (fun t ht => hz t (by simp [ht])) (by omega) hn).up (by rw [List.length_cons, Nat.succ_mul, Nat.succ_mul]; omega)
theorem countP_set {α : Type} {P : α → Bool} {ts : List α} {i : Nat} {z : α} (h : ∀ t ∈ ts, P t = false) : (ts.set i z).countP P ≤ 1 := by
  induction ts generalizing i with
  | nil => simp
  | cons a ts ih =>
    cases i with
    | zero =>
      rw [List.set_cons_zero, List.countP_cons]
      have : ts.countP P = 0 := List.countP_eq_zero.mpr fun t ht => by rw [h t (by simp [ht])]; simp
      rw [this]
      split <;> omega
    | succ i =>
      rw [List.set_cons_succ, List.countP_cons, if_neg (by rw [h a (by simp)]; simp)]
      exact ih fun t ht => h t (by simp [ht])
theorem polar_set {m n n' : Nat} {row : List Pt} {ts : List Rat} {i : Nat} {z : Rat} (h : Rw m row) (hz : ∀ t ∈ ts, Sz n t) (hz' : ∀ t ∈ ts.set i z, Sz n' t) (hn : n ≤ n') (zz : Sz n' z) : ∀ j, ∀ p ∈ foldR ((ts.set i z).take j) row, SzP (m + ts.length * (n + 2) + (n' - n)) p := fun j p hp => by
  have hc : ((ts.set i z).take j).countP (fun t => decide ¬ (t.num.natAbs < 2 ^ n ∧ t.den < 2 ^ n)) ≤ 1 := by
    refine Nat.le_trans (List.Sublist.countP_le (List.take_sublist _ _)) (countP_set fun t ht => ?_)
    have := hz t ht
    simp [this.n, this.d]
  have := h.fold2 (n := n) (n' := n') ((ts.set i z).take j) 1 (fun t ht => hz' t (List.mem_of_mem_take ht)) hc hn
  refine (this.up ?_).sz p hp
  have : ((ts.set i z).take j).length ≤ ts.length := by rw [List.length_take, List.length_set]; omega
  have : ((ts.set i z).take j).length * (n + 2) ≤ ts.length * (n + 2) := Nat.mul_le_mul_right _ this
  omega
end C7
/-! ### list(reversed(x)) -/
namespace C7R
open PySem PySem.Spec PyProof.Rows L2 RT
section
variable {prog : Program} {w : World} {A : Around} {s : Shared} {R : Result → Shared → Prop}
theorem ext_rev {I L S : Addr} {ys : Array Value} {c : Nat} {z : Value} (hh : A.handled = none) (hi : s.heap.IsRevIter I L ((ys.size : Int) - 1)) (hL : s.heap.IsList L ys) (hLI : L ≠ I) (hSI : S ≠ I) (hSL : S ≠ L) (hm : ys.size ≤ sizeLine) (hS : s.heap.get? S = some { cls := .type "list", data := .seq #[] c })
    (q : ∀ h' tk acc' c', (∀ b o, b ≠ S → b ≠ I → s.heap.get? b = some o → h'.get? b = some o) → h'.get? S = some { cls := .type "list", dict := none, data := .seq acc' c', slots := #[] } → ItemsOf (fun i v => ys[ys.size - 1 - i]? = some v) acc' ys.size → R (.ok (.ret z)) { s with heap := h', toks := tk }) :
    wpAny (model prog w) A.in1 (Builtin.List.listExtendWith (.ref S) (.ref I) z) (fun fin s' => match fin with | .done f => R (.ok f) s' | .again c' => c'.quiet = true ∧ codeAny (model prog w) A c' R s') (fun e s' => R (.error e) s') s := by
  have W0 := (Walks.listRev (prog := prog) (w := w) (A := A.in1) hh I L hLI ys).toS
  have ty : s.TypeIs (.ref I) "list_reverseiterator" := hi.typeIs
  have nf : S ∉ [I, L] := fun z => by
    rcases List.mem_cons.mp z with z | z
    · exact hSI z
    · exact hSL (List.mem_singleton.mp z)
  have same : Builtin.List.listSameRef (.ref S) (.ref I) = false := by simp [Builtin.List.listSameRef, hSI]
  have z0 : ((ys.size : Nat) : Int) - 1 - ((0 : Nat) : Int) = (ys.size : Int) - 1 := by omega
  unfold Builtin.List.listExtendWith; refine wpAny_bind (wpAny_typeOf ty ?_)
  rw [if_neg (by rw [same]; decide)]; refine wpAny_bind (wpAny_pyIter_revIter hi ?_)
  refine wpAny_bind (wpAny_holding ?_); unfold Builtin.List.listLengthHint
  refine wpAny_bind (wpAny_specialOf ty nolen_lri ?_); show wpAny _ A.in1 (specialOf (Value.ref I) (Str.ofString "__length_hint__") >>= _) _ _ _
  refine wpAny_bind (wpAny_specialOf ty hint_lri ?_); generalize hn : ("list_reverseiterator.__length_hint__" : String) = nm
  wp_delta
  rw [show splitId nm = some ("list_reverseiterator", "__length_hint__") from by subst hn; decide +kernel]; subst hn
  refine wpAny_bind (wpAny_isInstance (b := true) ty (by rw [isSubtype_type]; kernel_rfl) ?_); refine wpAny_pure ?_
  rw [if_neg (by decide)]
  refine wpAny_pure ⟨plainId_quiet F.plain_extend_loop _, codeAny_extend_loopS W0 hm _ nf _ ys.size 0 _ _ _ rfl (Nat.zero_le _) ⟨Nat.zero_le _, by rw [z0]; exact hi, hL⟩ hS (ItemsOf.nil _) fun s1 acc1 c1 mv g1 it1 => ?_⟩
  rw [Moved.eq_with mv]
  refine q s1.heap s1.toks acc1 c1 (fun b o n1 n2 e => mv.heap b o (fun z => ?_) e) g1 it1
  rcases List.mem_cons.mp z with z | z
  · exact n1 z
  · exact n2 (List.mem_singleton.mp z)
theorem init_rev {I L S : Addr} {ys : Array Value} (hh : A.handled = none) (hi : s.heap.IsRevIter I L ((ys.size : Int) - 1)) (hL : s.heap.IsList L ys) (hLI : L ≠ I) (hSI : S ≠ I) (hSL : S ≠ L) (hm : ys.size ≤ sizeLine) (hS : s.heap.get? S = some { cls := .type "list", data := .seq #[] })
    (q : ∀ h' tk acc' c', (∀ b o, b ≠ S → b ≠ I → s.heap.get? b = some o → h'.get? b = some o) → h'.get? S = some { cls := .type "list", dict := none, data := .seq acc' c', slots := #[] } → ItemsOf (fun i v => ys[ys.size - 1 - i]? = some v) acc' ys.size → R (.ok (.ret .none)) { s with heap := h', toks := tk }) :
    wpAny (model prog w) A.in1 (Builtin.«list.__init__» ⟨[.ref S, .ref I], []⟩) (fun fin s' => match fin with | .done f => R (.ok f) s' | .again c' => c'.quiet = true ∧ codeAny (model prog w) A c' R s') (fun e s' => R (.error e) s') s := by
  show wpAny _ _ (do let old ← Builtin.List.listItems (.ref S); Builtin.List.listUpdate (.ref S) (fun _ => #[]); letGo old.toList.reverse; Builtin.List.listExtendWith (.ref S) (.ref I) .none) _ _ _
  refine wpAny_bind ?_; unfold Builtin.List.listItems
  refine wpAny_bind (wpAny_seqItems hS rfl (wpAny_pure ?_)); show wpAny _ _ (updateSeq S (fun _ => #[]) >>= fun _ => letGo (#[] : Array Value).toList.reverse >>= fun _ => Builtin.List.listExtendWith (.ref S) (.ref I) .none) _ _ _
  refine wpAny_bind (wpAny_updateSeq hS rfl ?_); have g2 := Heap.get?_update_self (Obj.mapSeq (fun _ => (#[] : Array Value))) hS rfl
  have kp : ∀ b o, b ≠ S → s.heap.get? b = some o → (s.heap.update S (Obj.mapSeq (fun _ => (#[] : Array Value)))).get? b = some o := fun b o n e => by rw [Heap.get?_update_other _ _ (Ne.symm n)]; exact e
  refine wpAny_bind (wpAny_letGo ?_)
  obtain ⟨ol, hol, hol2⟩ := id hL
  refine ext_rev (s := { s with heap := s.heap.update S (Obj.mapSeq (fun _ => (#[] : Array Value))) }) hh (hi.at fun o e => kp I o (Ne.symm hSI) e) ⟨ol, kp L ol (Ne.symm hSL) hol, hol2⟩ hLI hSI hSL hm g2 fun h' tk a' c' k' => q h' tk a' c' fun b o n1 n2 e => k' b o n1 n2 (kp b o n1 e)
end
section
variable {prog : Program} {w : World} {A : Around} {E : Value → Shared → Prop} {s : Shared}
theorem call_list_rev {I L : Addr} {ys : Array Value} {Q : Value → Shared → Prop} (hh : A.handled = none) (hi : s.heap.IsRevIter I L ((ys.size : Int) - 1)) (hL : s.heap.IsList L ys) (hLI : L ≠ I) (hm : ys.size ≤ sizeLine)
    (q : ∀ h' tk acc' c', (∀ b o, b ≠ I → s.heap.get? b = some o → h'.get? b = some o) → h'.get? s.heap.objs.size = some { cls := .type "list", dict := none, data := .seq acc' c', slots := #[] } → ItemsOf (fun i v => ys[ys.size - 1 - i]? = some v) acc' ys.size → Q (.ref s.heap.objs.size) { s with heap := h', toks := tk }) :
    wpAny (model prog w) A (call (.type "list") [.ref I]) Q E s := by
  refine callType_codes (Q₁ := fun ob st => ob = .ref s.heap.objs.size ∧ st = { s with heap := s.heap.push { cls := .type "list", data := .seq #[] } }) F.called_list (F.typeCall_list_1 _) F.entry_list_init (code_list_new _ ⟨rfl, rfl⟩) fun ob st hq => ?_
  obtain ⟨rfl, rfl⟩ := hq
  obtain ⟨oi, hoi, _⟩ := id hi
  obtain ⟨ol, hol, hol2⟩ := id hL
  have gS : (s.heap.push { cls := .type "list", data := .seq #[] }).get? s.heap.objs.size = some { cls := .type "list", data := .seq #[] } := Heap.get?_push_size _ rfl
  refine ⟨⟨_, gS, rfl⟩, F.args_list_init_2 _ _, init_rev (A := A.in1) (s := { s with heap := s.heap.push { cls := .type "list", data := .seq #[] } }) hh (hi.at fun o e => Heap.get?_push_of_some _ e) (hL.push _) hLI (Nat.ne_of_gt (Heap.lt_size hoi)) (Nat.ne_of_gt (Heap.lt_size hol)) hm gS fun h' tk a' c' k' g' i' => ?_⟩
  exact ⟨rfl, q h' tk a' c' (fun b o n e => k' b o (Nat.ne_of_lt (Heap.lt_size e)) n (Heap.get?_push_of_some _ e)) g' i'⟩
end
def tLstRev (K : PySem.W.Frag) (te : TE) : TE := fun σ H Q => te σ H fun v H1 => ∃ a xs, v = .ref a ∧ SqL K H1 a xs ∧ ∀ p, H1 p = none → Q (.ref p) (upd H1 p (.lst xs.reverse))
theorem pe_lstRev {X : Cx} {e : Expr} {te : TE} {p p2 pos pos2 : Pos} (hc : X.calm = true) (hg : Gl X "list") (hm : X.mg "list" = none) (hg2 : Gl X "reversed") (hm2 : X.mg "reversed" = none) (he : PE X e te)
    (hs : starEach [e] X.env = (false, eval e X.env) :: starEach [] X.env) (hs2 : starEach [.Call (.Name "reversed" p2) [e] [] pos2] X.env = (false, eval (.Call (.Name "reversed" p2) [e] [] pos2) X.env) :: starEach [] X.env) :
    PE X (.Call (.Name "list" p) [.Call (.Name "reversed" p2) [e] [] pos2] [] pos) (tLstRev X.K te) := by
  refine ⟨fun pins s σ H Q I h => Call_ (ld_blt I hg hm C7.bo_list (PyProof.Rows.callWith_type1 (args_cons (Call_ (ld_blt I hg2 hm2 PyProof.Rows.boot_reversed (PyProof.Rows.callWith_type1 (args_cons (thn (he.run pins s σ H _ I h) fun u s1 ⟨v, H1, I1, r1, q1⟩ => args_nil ?_) hs) hs rfl))) hs2) hs2 rfl))⟩
  obtain ⟨a, xs, rfl, hq, q⟩ := q1
  obtain rfl : u = Value.ref a := r1
  obtain ⟨its, rv, pl, hz⟩ := I1.list hq
  have hl := pl.isList
  obtain ⟨ol, hol, _⟩ := id hl
  refine call_reversed_list hl (args_nil ?_)
  have I2 : Inv X pins σ H1 { s1 with heap := s1.heap.push (revObj a ((its.toArray.size : Int) - 1)) } := I1.kept (t' := s1.toks) fun b o e => Heap.get?_push_of_some _ e
  have fp := I1.fpOk (H' := H1) (b := s1.heap.objs.size) (Nat.le_refl _) (I1.hok.fresh (Nat.le_refl _))
  refine call_list_rev (s := { s1 with heap := s1.heap.push (revObj a ((its.toArray.size : Int) - 1)) }) (I1.ok.hd hc) ⟨_, Heap.get?_push_size _ rfl, rfl, rfl⟩ (hl.push _) (Nat.ne_of_lt (Heap.lt_size hol)) (by rw [List.size_toArray, ← rv.length]; exact hz) fun h' tk acc c' hk hp hi => ?_
  refine ⟨.ref _, _, I2.turnedNew (t' := tk) (ch := [s1.heap.objs.size]) (ob := .lst xs.reverse) (fun b o n e => hk b o (fun z => n (by simp [z])) e) (fun b hb => by rw [List.mem_singleton.mp hb]; exact fp) (Nat.le_refl _) ?_, rfl, q _ (I2.hok.fresh (Nat.le_refl _))⟩
  exact ⟨by rw [List.length_reverse]; exact hz, acc.toList, c', vals_rev rv hi, by rw [Array.toArray_toList]; exact hp⟩
end C7R

namespace C7
open PySem PySem.Spec PyProof.Rows L2
section
variable {X : Cx} {ρ : Ro} {A : AH} {a : Expr} {pos p0 p2 pos2 : Pos} {x : D} {k : AK} {β : Type} {f : β → D} {xs : List β}
theorem al_lstRev (hc : X.calm = true) (hg : Gl X "list") (hm : X.mg "list" = none) (hg2 : Gl X "reversed") (hm2 : X.mg "reversed" = none) (h : AV X a ρ A x) (hl : IsL A x (xs.map f)) (hs : isStar a = false := by rfl) : AL X (.Call (.Name "list" p0) [.Call (.Name "reversed" p2) [a] [] pos2] [] pos) ρ A (xs.reverse.map f) := fun k q σ H s Q qq =>
  tm_of (C7R.pe_lstRev hc hg hm hg2 hm2 (pe_tm a) (star_cons hs) (star_cons rfl)) (h σ H s _ fun v H1 t1 r1 l1 => by
    obtain ⟨p, vs, rfl, g1, g2⟩ := hl.sq r1 l1
    refine ⟨p, vs, rfl, g1, fun z hz => qq _ _ _ _ (t1.trans (TS.new hz)) (.ref z) (l1.newL hz g2.reverse).2 ?_⟩
    rw [← List.map_reverse]
    exact q z (l1.none hz))
theorem av_listRev (hc : X.calm = true) (hg : Gl X "list") (hg2 : Gl X "reversed") (hm : X.mg "list" = none) (hm2 : X.mg "reversed" = none) (h : AV X a ρ A x) (hl : IsL A x (xs.map f)) (hs : isStar a = false := by rfl) : AV X (.Call (.Name "list" p0) [.Call (.Name "reversed" p2) [a] [] pos2] [] pos) ρ A (.fz (xs.reverse.map f)) := (al_lstRev hc hg hm hg2 hm2 h hl hs).av
end
end C7
namespace C7
open PySem PySem.Spec PyProof.Rows L2
/-! ### maps -/
structure Mp where
  a : Rat
  b : Rat
  c : Rat
  d : Rat
  e : Rat
  f : Rat
def mp (m : Mp) : D := .tup [sh m.a, sh m.b, sh m.c, sh m.d, sh m.e, sh m.f]
def led (m : Mp) (p : Pt) : Pt := (m.a * p.1 + m.b * p.2 + m.e, m.c * p.1 + m.d * p.2 + m.f)
structure MpZ (n : Nat) (m : Mp) : Prop where
  a : Sz n m.a
  b : Sz n m.b
  c : Sz n m.c
  d : Sz n m.d
  e : Sz n m.e
  f : Sz n m.f
theorem led_on (m : Mp) (p q : Pt) (t : Rat) : onWay (led m p) (led m q) t = led m (onWay p q t) := by
  unfold onWay led
  refine Prod.ext ?_ ?_
  · show (_ : Rat) = _; dsimp only; grind
  · show (_ : Rat) = _; dsimp only; grind
theorem gp_mapL {row : List Pt} {g : Pt → Pt} {k : Nat} (h : k < row.length) : gp (row.map g) k = g (gp row k) := by
  unfold gp
  rw [List.getD_eq_getElem?_getD, List.getD_eq_getElem?_getD, List.getElem?_map, List.getElem?_eq_getElem h]
  rfl
theorem next_led (m : Mp) (t : Rat) (row : List Pt) : nextR t (row.map (led m)) = (nextR t row).map (led m) := by
  refine row_ext (by rw [nextR_len, List.length_map, List.length_map, nextR_len]) fun k hk => ?_
  rw [nextR_len, List.length_map] at hk
  rw [nextR_gp (by rw [List.length_map]; exact hk), gp_mapL (by omega), gp_mapL (by omega), gp_mapL (by rw [nextR_len]; exact hk), nextR_gp hk, led_on]
theorem iter_led (m : Mp) (t : Rat) (row : List Pt) : ∀ j, iterR t (row.map (led m)) j = (iterR t row j).map (led m) := by
  intro j
  induction j with
  | zero => rfl
  | succ j ih => show nextR t (iterR t (row.map (led m)) j) = (nextR t (iterR t row j)).map (led m); rw [ih, next_led]
theorem point_led {m : Mp} {t : Rat} {row : List Pt} (h : 0 < row.length) : pointR t (row.map (led m)) = led m (pointR t row) := by
  unfold pointR
  rw [iter_led, List.length_map, gp_mapL (by rw [iterR_len]; omega)]
/-! ### sizes -/
theorem ov_dvd {q : Rat} {D : Int} {n k : Nat} (hz : Sz n q) (hd : (q.den : Int) ∣ D) (h0 : D ≠ 0) (hD : D.natAbs < 2 ^ k) : Ov D (n + k) q := by
  obtain ⟨r, hr⟩ := hd
  refine ⟨q.num * r, ?_, ?_⟩
  · have h1 := rat_eq q
    have h2 := den_ne q
    have hr0 : r ≠ 0 := fun z => h0 (by rw [hr, z, Int.mul_zero])
    have hr' : (r : Rat) ≠ 0 := fun z => hr0 (by exact_mod_cast z)
    have c1 : ((q.num * r : Int) : Rat) = (q.num : Rat) * r := by push_cast; rfl
    have c2 : (D : Rat) = (q.den : Rat) * r := by rw [hr]; push_cast; rfl
    rw [c1, c2]
    generalize (q.num : Rat) = x at *
    generalize (q.den : Rat) = y at *
    grind
  · refine bt_mul hz.num ?_
    have : r.natAbs ≤ D.natAbs := by
      rw [hr, Int.natAbs_mul]
      exact Nat.le_mul_of_pos_left _ (by have := den_pos q; omega)
    omega
theorem ov_mul {B C : Int} {m n : Nat} {p q : Rat} (h1 : Ov B m p) (h2 : Ov C n q) : Ov (B * C) (m + n) (p * q) := by
  obtain ⟨N, e, hN⟩ := h1
  obtain ⟨N', e', hN'⟩ := h2
  refine ⟨N * N', ?_, bt_mul hN hN'⟩
  have c1 : ((N * N' : Int) : Rat) = (N : Rat) * N' := by push_cast; rfl
  have c2 : ((B * C : Int) : Rat) = (B : Rat) * C := by push_cast; rfl
  rw [e, e', c1, c2]
  grind
theorem ov_add {B : Int} {m n : Nat} {p q : Rat} (h1 : Ov B m p) (h2 : Ov B n q) : Ov B (max m n + 1) (p + q) := by
  obtain ⟨N, e, hN⟩ := h1
  obtain ⟨N', e', hN'⟩ := h2
  refine ⟨N + N', ?_, bt_add hN hN'⟩
  have c1 : ((N + N' : Int) : Rat) = (N : Rat) + N' := by push_cast; rfl
  rw [e, e', c1]
  grind
theorem ov_sub {B : Int} {m n : Nat} {p q : Rat} (h1 : Ov B m p) (h2 : Ov B n q) : Ov B (max m n + 1) (p - q) := by
  obtain ⟨N, e, hN⟩ := h1
  obtain ⟨N', e', hN'⟩ := h2
  refine ⟨N - N', ?_, bt_sub hN hN'⟩
  have c1 : ((N - N' : Int) : Rat) = (N : Rat) - N' := by push_cast; rfl
  rw [e, e', c1]
  grind
theorem Ov.comm {B C : Int} {m : Nat} {q : Rat} (h : Ov (B * C) m q) : Ov (C * B) m q := Int.mul_comm B C ▸ h
def mdens (m : Mp) : List Rat := [m.a, m.b, m.c, m.d, m.e, m.f]
theorem dens_dvd : ∀ {ts : List Rat} {q : Rat}, q ∈ ts → (q.den : Int) ∣ dens ts
  | t :: ts, q, h => by
    rcases List.mem_cons.mp h with h | h
    · rw [h]; exact Int.dvd_mul_right _ _
    · exact Int.dvd_trans (dens_dvd h) (Int.dvd_mul_left _ _)
theorem MpZ.all {n : Nat} {m : Mp} (h : MpZ n m) : ∀ t ∈ mdens m, Sz n t := fun t ht => by
  simp only [mdens, List.mem_cons, List.not_mem_nil, or_false] at ht
  rcases ht with h' | h' | h' | h' | h' | h' <;> rw [h']
  · exact h.a
  · exact h.b
  · exact h.c
  · exact h.d
  · exact h.e
  · exact h.f
theorem Rw.map {m n : Nat} {row : List Pt} {M : Mp} (h : Rw m row) (hM : MpZ n M) : Rw (m + 7 * n + 4) (row.map (led M)) := by
  obtain ⟨B, h0, h1, h2⟩ := h
  have hD0 := dens_ne (mdens M)
  have hD : (dens (mdens M)).natAbs < 2 ^ (6 * n + 1) := dens_bt (mdens M) hM.all
  refine ⟨B * dens (mdens M), Int.mul_ne_zero h0 hD0, bt_le (bt_mul h1 hD) (by omega), fun p hp => ?_⟩
  rw [List.mem_map] at hp
  obtain ⟨q, hq, rfl⟩ := hp
  have hq := h2 q hq
  have ov : ∀ t ∈ mdens M, Ov (dens (mdens M)) (n + (6 * n + 1)) t := fun t ht => ov_dvd (hM.all t ht) (dens_dvd ht) hD0 hD
  have key : ∀ a b e : Rat, a ∈ mdens M → b ∈ mdens M → e ∈ mdens M → Ov (B * dens (mdens M)) (m + 7 * n + 4) (a * q.1 + b * q.2 + e) := fun a b e ha hb he => by
    have x1 := (ov_mul (ov a ha) hq.1).comm
    have x2 := (ov_mul (ov b hb) hq.2).comm
    have x3 := ((ov e he).lift h0 h1).comm
    exact (ov_add (ov_add x1 x2) x3).up (by omega)
  exact ⟨key _ _ _ (by simp [mdens]) (by simp [mdens]) (by simp [mdens]), key _ _ _ (by simp [mdens]) (by simp [mdens]) (by simp [mdens])⟩
theorem len6 {α : Type} {as : List α} (h : as.length = 6) : ∃ a b c d e f, as = [a, b, c, d, e, f] := by
  match as, h with
  | [a, b, c, d, e, f], _ => exact ⟨a, b, c, d, e, f, rfl⟩
/-! ### tuples put together; is not True; any(..) within a suite -/
section
variable {X : Cx} {ρ : Ro} {A : AH} {a b : Expr} {pos p0 : Pos} {ds es : List D}
theorem av_catT {d : D} {ds : List D} (ha : AV X a ρ A (.tup (d :: ds))) (hb : AV X b ρ A (.tup es)) (hz : (d :: ds).length + es.length ≤ sizeLine := by first | decide | exact Nat.le_of_ble_eq_true rfl) (hne : es ≠ [] := by simp) : AV X (.BinOp a .Add b pos) ρ A (.tup ((d :: ds) ++ es)) :=
  av_op op_catT ha hb fun v u H r1 r2 l Q q => by
    obtain ⟨p, vs, rfl, h1, h2⟩ := r1.tup_of
    obtain ⟨p', ws, rfl, h3, h4⟩ := r2.tup_of
    refine ⟨p, p', vs, ws, rfl, rfl, h1, h3, ?_, by rw [h2.length, h4.length]; exact hz, ?_, fun _ z hz' => q _ _ (TS.new hz') (tup_ok (h2.append h4) hz') (l.newT hz')⟩
    · intro e; rw [e] at h2; cases h2
    · intro e
      rw [e] at h4
      exact absurd (by cases h4; rfl) hne
theorem at_isnotB {x y : Bool} (ha : AV X a ρ A (.bl x)) (hb : AV X b ρ A (.bl y)) : AT X (.Compare a [.IsNot] [b] pos) ρ A (!decide (x = y)) :=
  at_cmp op_notBl (nomark _) ha hb fun v u H r1 r2 l Q q => by
    rw [r1.bl_of, r2.bl_of]
    exact ⟨x, y, rfl, rfl, q H (TS.refl H) l⟩
end
section
variable {X : Cx} {ρ : Ro} {A : AH} {a : Expr} {pos p0 : Pos} {p : Addr} {oe : Obj} {pn : List (Addr × Obj)} {bs : List Bool}
theorem av_anyH {cls : Value} {dd : Option Addr} (hz : L2N.Zn cls dd oe) (hf : ∃ vs, oe.data = .fields vs) (hg : Gl X "any") (hm : X.mg "any" = none) (h : AV (X.suite p ((p, oe) :: pn)) a ρ A (.fz (bs.map D.bl))) (hs : starEach [a] X.env = [(false, eval a X.env)] := by rfl) :
    AV (X.suite p ((p, oe) :: pn)) (.Call (.Name "any" p0) [a] [] pos) ρ A (.bl (bs.any id)) := AE.av (ae_anyH hz hf hg hm (h.ae ⟨bs, IsL.fz, rfl, Ext.refl A⟩) hs)
end
/-! ### one map and another; back -/
def thenM (m n : Mp) : Mp := ⟨n.a * m.a + n.b * m.c, n.a * m.b + n.b * m.d, n.c * m.a + n.d * m.c, n.c * m.b + n.d * m.d, (led n (m.e, m.f)).1, (led n (m.e, m.f)).2⟩
theorem led_then (m n : Mp) (p : Pt) : led (thenM m n) p = led n (led m p) := by
  unfold led thenM
  refine Prod.ext ?_ ?_
  · show (_ : Rat) = _; dsimp only [led]; grind
  · show (_ : Rat) = _; dsimp only [led]; grind
def detM (m : Mp) : Rat := m.a * m.d - m.b * m.c
def turnM (m : Mp) : Mp := ⟨m.d / detM m, (0 - m.b) / detM m, (0 - m.c) / detM m, m.a / detM m, 0, 0⟩
def backM (m : Mp) : Mp := { turnM m with e := 0 - (led (turnM m) (m.e, m.f)).1, f := 0 - (led (turnM m) (m.e, m.f)).2 }
theorem led_back {m : Mp} (h : detM m ≠ 0) (p : Pt) : led (backM m) (led m p) = p := by
  unfold led backM turnM led
  unfold detM at *
  refine Prod.ext ?_ ?_
  · show (_ : Rat) = p.1; dsimp only; grind
  · show (_ : Rat) = p.2; dsimp only; grind
theorem back_led {m : Mp} (h : detM m ≠ 0) (p : Pt) : led m (led (backM m) p) = p := by
  unfold led backM turnM led
  unfold detM at *
  refine Prod.ext ?_ ?_
  · show (_ : Rat) = p.1; dsimp only; grind
  · show (_ : Rat) = p.2; dsimp only; grind
theorem num_zero {q : Rat} : q.num = 0 ↔ q = 0 := by
  constructor
  · intro h; rw [rat_eq q, h]; grind
  · intro h; rw [h]; rfl
end C7
namespace C7
theorem neg_tup (g : Rat) : D.tup [.int (0 - g.num), .int (g.den : Int)] = sh (0 - g) := by
  have e : (0 : Rat) - g = -g := by grind
  unfold sh
  rw [e, Rat.neg_num, Rat.neg_den, Int.zero_sub]
end C7
namespace C7
open PySem PySem.Spec PyProof.Rows L2
section
variable {X : Cx} {ρ : Ro} {A : AH} {a : Expr} {β : Type} {f : β → D} {tg : Expr} {kI : AH → (AH → Prop) → Nat → (Nat → D) → Prop}
theorem ai_FE (d0 : β) (h : AE X a ρ A fun d A1 => ∃ xs : List β, d = .fz (xs.map f) ∧ kI A1 (fun _ => True) xs.length (fun i => f (xs.getD i d0))) : AI X tg a ρ A kI :=
  AI.to (ai_list (h.mono fun d A1 ⟨xs, e, q⟩ => ⟨_, by rw [e]; exact IsL.fz, fun _ => True, fun i => f (xs.getD i d0), fun i hi => getD_mapF d0 (by rw [List.length_map] at hi; exact hi), fun _ _ => by rw [e]; exact IsL.fz, by rw [List.length_map]; exact q⟩))
end
theorem led_sz {n m : Nat} {M : Mp} {p : Pt} (h : MpZ n M) (hp : SzP m p) : SzP (3 * n + 2 * m + 2) (led M p) := ⟨(sz_add (sz_add (sz_mul h.a hp.1) (sz_mul h.b hp.2)) h.e).up (by omega), (sz_add (sz_add (sz_mul h.c hp.1) (sz_mul h.d hp.2)) h.f).up (by omega)⟩
theorem then_z {n : Nat} {m1 m2 : Mp} (h1 : MpZ n m1) (h2 : MpZ n m2) : MpZ (5 * n + 2) (thenM m1 m2) := by
  have z := led_sz h2 (p := (m1.e, m1.f)) ⟨h1.e, h1.f⟩
  exact ⟨(sz_add (sz_mul h2.a h1.a) (sz_mul h2.b h1.c)).up (by omega), (sz_add (sz_mul h2.a h1.b) (sz_mul h2.b h1.d)).up (by omega), (sz_add (sz_mul h2.c h1.a) (sz_mul h2.d h1.c)).up (by omega), (sz_add (sz_mul h2.c h1.b) (sz_mul h2.d h1.d)).up (by omega), z.1.up (by omega), z.2.up (by omega)⟩
theorem turn_z {n : Nat} {m : Mp} (h : MpZ n m) (hd : detM m ≠ 0) : MpZ (6 * n + 3) (turnM m) := by
  have zw : Sz (n + n + (n + n) + 1) (detM m) := sz_sub (sz_mul h.a h.d) (sz_mul h.b h.c)
  exact ⟨(sz_divR h.d zw hd).up (by omega), (sz_divR (sz_sub sz_zero h.b) zw hd).up (by omega), (sz_divR (sz_sub sz_zero h.c) zw hd).up (by omega), (sz_divR h.a zw hd).up (by omega), sz_zero.up (by omega), sz_zero.up (by omega)⟩
theorem back_z {n : Nat} {m : Mp} (h : MpZ n m) (hd : detM m ≠ 0) : MpZ (20 * n + 14) (backM m) := by
  have t := turn_z h hd
  have z := led_sz t (p := (m.e, m.f)) ⟨h.e, h.f⟩
  exact ⟨t.a.up (by omega), t.b.up (by omega), t.c.up (by omega), t.d.up (by omega), (sz_sub sz_zero z.1).up (by omega), (sz_sub sz_zero z.2).up (by omega)⟩
theorem back_led_sz {n k : Nat} {m : Mp} {p : Pt} (h : MpZ n m) (hd : detM m ≠ 0) (hp : SzP k p) : SzP (32 * n + 2 * k + 24) (led (backM m) p) := by
  have t := turn_z h hd
  have b := back_z h hd
  exact ⟨(sz_add (sz_add (sz_mul t.a hp.1) (sz_mul t.b hp.2)) b.e).up (by omega), (sz_add (sz_add (sz_mul t.c hp.1) (sz_mul t.d hp.2)) b.f).up (by omega)⟩
end C7
namespace C7
open PySem PySem.Spec PyProof.Rows L2
/-! ### differences and powers, on sequences -/
def dl (x : Nat → Rat) : Nat → Rat := fun i => x (i + 1) - x i
def dn : Nat → (Nat → Rat) → Nat → Rat
  | 0, x => x
  | k + 1, x => dl (dn k x)
theorem dl_nx (t : Rat) (x : Nat → Rat) : dl (nx t x) = nx t (dl x) := by funext i; unfold dl nx; grind
theorem dn_nx (t : Rat) : ∀ (k : Nat) (x : Nat → Rat), dn k (nx t x) = nx t (dn k x)
  | 0, _ => rfl
  | k + 1, x => by show dl (dn k (nx t x)) = nx t (dl (dn k x)); rw [dn_nx t k x, dl_nx]
theorem dn_dl : ∀ (k : Nat) (x : Nat → Rat), dn k (dl x) = dn (k + 1) x
  | 0, _ => rfl
  | k + 1, x => by show dl (dn k (dl x)) = dl (dn (k + 1) x); rw [dn_dl k x]
theorem dn_loc : ∀ (k : Nat) (x y : Nat → Rat) (i : Nat), (∀ j, j ≤ k → x (i + j) = y (i + j)) → dn k x i = dn k y i
  | 0, x, y, i, h => h 0 (Nat.le_refl _)
  | k + 1, x, y, i, h => by
    show dn k x (i + 1) - dn k x i = dn k y (i + 1) - dn k y i
    rw [dn_loc k x y (i + 1) fun j hj => by rw [show i + 1 + j = i + (j + 1) by omega]; exact h (j + 1) (by omega), dn_loc k x y i fun j hj => h j (by omega)]
theorem ch_succ (n k : Nat) : ((ch (n + 1) (k + 1) : Nat) : Rat) = (ch n k : Rat) + (ch n (k + 1) : Rat) := by
  show ((ch n k + ch n (k + 1) : Nat) : Rat) = _
  push_cast
  rfl
theorem pascal (g : Nat → Rat) (n : Nat) : sumN (fun k => (ch (n + 1) k : Rat) * g k) (n + 2) = sumN (fun k => (ch n k : Rat) * g k) (n + 1) + sumN (fun k => (ch n k : Rat) * g (k + 1)) (n + 1) := by
  rw [sumN_first]
  have e1 : sumN (fun k => ((ch (n + 1) (k + 1) : Nat) : Rat) * g (k + 1)) (n + 1) = sumN (fun k => (ch n k : Rat) * g (k + 1)) (n + 1) + sumN (fun k => (ch n (k + 1) : Rat) * g (k + 1)) (n + 1) := by
    rw [← sumN_add]
    exact sumN_congr fun k _ => by rw [ch_succ]; grind
  have e2 : sumN (fun k => (ch n k : Rat) * g k) (n + 2) = (ch n 0 : Rat) * g 0 + sumN (fun k => (ch n (k + 1) : Rat) * g (k + 1)) (n + 1) := sumN_first _ _
  have e3 : sumN (fun k => (ch n k : Rat) * g k) (n + 2) = sumN (fun k => (ch n k : Rat) * g k) (n + 1) := by
    show sumN (fun k => (ch n k : Rat) * g k) (n + 1) + (ch n (n + 1) : Rat) * g (n + 1) = _
    rw [ch_over (show n < n + 1 by omega)]
    grind
  have e4 : ((ch (n + 1) 0 : Nat) : Rat) = (ch n 0 : Rat) := by rw [ch_zero, ch_zero]
  rw [e4]
  show (ch n 0 : Rat) * g 0 + sumN (fun k => ((ch (n + 1) (k + 1) : Nat) : Rat) * g (k + 1)) (n + 1) = _
  rw [e1]
  grind
theorem ops_sum (t : Rat) : ∀ (n : Nat) (x : Nat → Rat) (i : Nat), ops (List.replicate n t) x i = sumN (fun k => (ch n k : Rat) * (t ^ k * dn k x i)) (n + 1) := by
  intro n
  induction n with
  | zero =>
    intro x i
    show x i = 0 + (ch 0 0 : Rat) * (t ^ 0 * x i)
    rw [ch_zero, Rat.pow_zero]
    grind
  | succ n ih =>
    intro x i
    show ops (List.replicate n t) (nx t x) i = _
    rw [ih, pascal (fun k => t ^ k * dn k x i) n, ← sumN_add]
    refine sumN_congr fun k _ => ?_
    rw [dn_nx]
    show _ * (_ * (dn k x i + t * (dn k x (i + 1) - dn k x i))) = _
    have : dn (k + 1) x i = dn k x (i + 1) - dn k x i := rfl
    rw [this, Rat.pow_succ]
    grind
theorem newton (n : Nat) (x : Nat → Rat) (i : Nat) : x (i + n) = sumN (fun k => (ch n k : Rat) * dn k x i) (n + 1) := by
  rw [← ops_rep1 n x i, ops_sum]
  refine sumN_congr fun k _ => ?_
  have : ∀ k : Nat, (1 : Rat) ^ k = 1 := fun k => by
    induction k with
    | zero => rfl
    | succ k ih => rw [Rat.pow_succ, ih]; grind
  rw [this]
  grind
def sg (m : Nat) : Rat := if m % 2 = 0 then 1 else -1
theorem sg_succ (m : Nat) : sg (m + 1) = -sg m := by
  unfold sg
  rcases Nat.mod_two_eq_zero_or_one m with h | h
  · rw [h, if_neg (by omega), if_pos rfl]
  · rw [h, if_pos (by omega), if_neg (by decide)]; grind
theorem dn_sum : ∀ (k : Nat) (x : Nat → Rat) (i : Nat), dn k x i = sumN (fun j => (ch k j : Rat) * (sg (k - j) * x (i + j))) (k + 1) := by
  intro k
  induction k with
  | zero =>
    intro x i
    show x i = 0 + (ch 0 0 : Rat) * (sg 0 * x (i + 0))
    rw [ch_zero, show sg 0 = 1 from rfl, Nat.add_zero]
    grind
  | succ k ih =>
    intro x i
    show dn k x (i + 1) - dn k x i = _
    rw [pascal (fun j => sg (k + 1 - j) * x (i + j)) k, ih, ih]
    have e1 : sumN (fun j => (ch k j : Rat) * (sg (k + 1 - j) * x (i + j))) (k + 1) = -1 * sumN (fun j => (ch k j : Rat) * (sg (k - j) * x (i + j))) (k + 1) := by
      rw [← sumN_mul]
      refine sumN_congr fun j hj => ?_
      rw [show k + 1 - j = (k - j) + 1 by omega, sg_succ]
      grind
    have e2 : sumN (fun j => (ch k j : Rat) * (sg (k + 1 - (j + 1)) * x (i + (j + 1)))) (k + 1) = sumN (fun j => (ch k j : Rat) * (sg (k - j) * x (i + 1 + j))) (k + 1) := by
      refine sumN_congr fun j hj => ?_
      rw [show k + 1 - (j + 1) = k - j by omega, show i + (j + 1) = i + 1 + j by omega]
    rw [e1, e2]
    grind
/-- the sequence whose differences at the begin are e -/
def Nw (e : Nat → Rat) (j : Nat) : Rat := sumN (fun a => (ch j a : Rat) * e a) (j + 1)
theorem dl_Nw (e : Nat → Rat) : dl (Nw e) = Nw fun a => e (a + 1) := by
  funext j
  show Nw e (j + 1) - Nw e j = _
  unfold Nw
  rw [pascal]
  grind
theorem dn_Nw : ∀ (k : Nat) (e : Nat → Rat), dn k (Nw e) 0 = e k := by
  intro k
  induction k with
  | zero =>
    intro e
    show (0 : Rat) + (ch 0 0 : Rat) * e 0 = e 0
    rw [ch_zero]
    grind
  | succ k ih => intro e; rw [← dn_dl, dl_Nw, ih]
theorem Nw_loc {e e' : Nat → Rat} {j : Nat} (h : ∀ a, a ≤ j → e a = e' a) : Nw e j = Nw e' j := sumN_congr fun a ha => by rw [h a (by omega)]
/-! ### of curves -/
def prs (f g : Nat → Rat) (n : Nat) : List Pt := (List.range n).map fun k => (f k, g k)
theorem prs_len (f g : Nat → Rat) (n : Nat) : (prs f g n).length = n := by unfold prs; simp
theorem prs_gp {f g : Nat → Rat} {n k : Nat} (h : k < n) : gp (prs f g n) k = (f k, g k) := gp_map h
theorem prs_px {f g : Nat → Rat} {n k : Nat} (h : k < n) : px (prs f g n) k = f k ∧ py (prs f g n) k = g k := by unfold px py; rw [prs_gp h]; exact ⟨rfl, rfl⟩
theorem prs_self (row : List Pt) : prs (px row) (py row) row.length = row := row_ext (prs_len _ _ _) fun k hk => by rw [prs_len] at hk; rw [prs_gp hk]; rfl
def powersR (row : List Pt) : List Pt := prs (fun k => (ch (row.length - 1) k : Rat) * dn k (px row) 0) (fun k => (ch (row.length - 1) k : Rat) * dn k (py row) 0) row.length
theorem powersR_len (row : List Pt) : (powersR row).length = row.length := prs_len _ _ _
def ofPowR (c : List Pt) : List Pt := prs (Nw fun a => px c a / (ch (c.length - 1) a : Rat)) (Nw fun a => py c a / (ch (c.length - 1) a : Rat)) c.length
theorem ofPowR_len (c : List Pt) : (ofPowR c).length = c.length := prs_len _ _ _
theorem ch_pos : ∀ {n k : Nat}, k ≤ n → 0 < ch n k := by
  intro n
  induction n with
  | zero => intro k h; rw [show k = 0 by omega]; decide
  | succ n ih =>
    intro k h
    match k with
    | 0 => exact Nat.one_pos
    | k + 1 => show 0 < ch n k + ch n (k + 1); have := ih (k := k) (by omega); omega
theorem ch_ne {n k : Nat} (h : k ≤ n) : (ch n k : Rat) ≠ 0 := by
  have := ch_pos h
  exact_mod_cast (show ((ch n k : Nat) : Int) ≠ 0 by omega)
theorem of_pow (row : List Pt) : ofPowR (powersR row) = row := by
  refine row_ext (by rw [ofPowR_len, powersR_len]) fun k hk => ?_
  rw [ofPowR_len, powersR_len] at hk
  have key : ∀ (x : Nat → Rat) (f : Nat → Rat), (∀ a, a < row.length → f a = (ch (row.length - 1) a : Rat) * dn a x 0) → Nw (fun a => f a / (ch (row.length - 1) a : Rat)) k = x k := by
    intro x f hf
    have := newton k x 0
    rw [Nat.zero_add] at this
    rw [this]
    refine sumN_congr fun a ha => ?_
    dsimp only
    rw [hf a (by omega)]
    have := ch_ne (n := row.length - 1) (k := a) (by omega)
    congr 1
    generalize (ch (row.length - 1) a : Rat) = c at *
    grind
  unfold ofPowR
  rw [powersR_len, prs_gp hk, key (px row) (px (powersR row)) fun a ha => (prs_px ha).1, key (py row) (py (powersR row)) fun a ha => (prs_px ha).2]
  rfl
theorem pow_of (c : List Pt) : powersR (ofPowR c) = c := by
  refine row_ext (by rw [powersR_len, ofPowR_len]) fun k hk => ?_
  rw [powersR_len, ofPowR_len] at hk
  have key : ∀ (f x : Nat → Rat), (∀ a, a < c.length → x a = Nw (fun b => f b / (ch (c.length - 1) b : Rat)) a) → (ch (c.length - 1) k : Rat) * dn k x 0 = f k := by
    intro f x hx
    rw [dn_loc k x (Nw fun b => f b / (ch (c.length - 1) b : Rat)) 0 fun j hj => by rw [Nat.zero_add]; exact hx j (by omega), dn_Nw]
    have := ch_ne (n := c.length - 1) (k := k) (by omega)
    generalize (ch (c.length - 1) k : Rat) = z at *
    grind
  unfold powersR
  rw [ofPowR_len, prs_gp hk, key (px c) (px (ofPowR c)) fun a ha => (prs_px ha).1, key (py c) (py (ofPowR c)) fun a ha => (prs_px ha).2]
  rfl
/-- the sum by the powers of t -/
def evalR (c : List Pt) (t : Rat) : Pt := (sumN (fun k => t ^ k * px c k) c.length, sumN (fun k => t ^ k * py c k) c.length)
theorem point_pow {t : Rat} {row : List Pt} (h : 0 < row.length) : pointR t row = evalR (powersR row) t := by
  rw [pointR_polar h, polarR_eq (by simp; omega), ops_sum, ops_sum]
  unfold evalR
  rw [powersR_len, show row.length - 1 + 1 = row.length by omega]
  refine Prod.ext ?_ ?_
  · refine sumN_congr fun k hk => ?_
    rw [show px (powersR row) k = _ from (prs_px hk).1]
    grind
  · refine sumN_congr fun k hk => ?_
    rw [show py (powersR row) k = _ from (prs_px hk).2]
    grind
theorem absorb (n a : Nat) : ((a : Int) + 1) * ch (n + 1) (a + 1) = ((n : Int) + 1) * ch n a := by
  have h := ch_step n a
  show ((a : Int) + 1) * ((ch n a + ch n (a + 1) : Nat) : Int) = _
  push_cast
  grind
theorem absorb' (n a : Nat) : (ch (n + 1) a : Int) * (((n : Int) + 1) - a) = ((n : Int) + 1) * ch n a := by
  have h := ch_step (n + 1) a
  have h2 := absorb n a
  push_cast at h
  grind
theorem absorbQ (n a : Nat) : ((a : Rat) + 1) * (ch (n + 1) (a + 1) : Rat) = ((n : Rat) + 1) * (ch n a : Rat) := by exact_mod_cast absorb n a
theorem absorbQ' (n a : Nat) : (ch (n + 1) a : Rat) * (((n : Rat) + 1) - a) = ((n : Rat) + 1) * (ch n a : Rat) := by
  have h := absorb' n a
  have : (((ch (n + 1) a : Int) * (((n : Int) + 1) - a) : Int) : Rat) = ((((n : Int) + 1) * ch n a : Int) : Rat) := by rw [h]
  push_cast at this
  exact this
/-! ### one seat more -/
def rz (n : Nat) (x : Nat → Rat) (k : Nat) : Rat := x k + (k : Rat) / (n : Rat) * (x (k - 1) - x k)
def raisedR (row : List Pt) : List Pt := prs (rz row.length (px row)) (rz row.length (py row)) (row.length + 1)
theorem raisedR_len (row : List Pt) : (raisedR row).length = row.length + 1 := prs_len _ _ _
theorem Nw_rz {n k : Nat} (x : Nat → Rat) (hn : 0 < n) : Nw (fun a => ((n : Rat) - a) / n * dn a x 0) k = rz n x k := by
  have hn' : (n : Rat) ≠ 0 := by exact_mod_cast (show (n : Int) ≠ 0 by omega)
  have h1 := newton k x 0
  rw [Nat.zero_add] at h1
  have e1 : Nw (fun a => ((n : Rat) - a) / n * dn a x 0) k = x k + (-1 / (n : Rat)) * sumN (fun a => (ch k a : Rat) * ((a : Rat) * dn a x 0)) (k + 1) := by
    rw [h1, ← sumN_mul, ← sumN_add]
    refine sumN_congr fun a _ => ?_
    dsimp only
    grind
  rw [e1]
  unfold rz
  cases k with
  | zero =>
    show x 0 + _ * (0 + (ch 0 0 : Rat) * (((0 : Nat) : Rat) * dn 0 x 0)) = x 0 + ((0 : Nat) : Rat) / n * _
    have : ((0 : Nat) : Rat) = 0 := rfl
    rw [this]
    grind
  | succ m =>
    have h2 := newton m (dl x) 0
    rw [Nat.zero_add] at h2
    have e2 : sumN (fun a => (ch (m + 1) a : Rat) * ((a : Rat) * dn a x 0)) (m + 1 + 1) = ((m : Rat) + 1) * dl x m := by
      rw [sumN_first, h2, ← sumN_mul]
      have z : ((ch (m + 1) 0 : Nat) : Rat) * (((0 : Nat) : Rat) * dn 0 x 0) = 0 := by
        have : ((0 : Nat) : Rat) = 0 := rfl
        rw [this]
        grind
      rw [z]
      have : sumN (fun k => ((ch (m + 1) (k + 1) : Nat) : Rat) * (((k + 1 : Nat) : Rat) * dn (k + 1) x 0)) (m + 1) = sumN (fun k => ((m : Rat) + 1) * ((ch m k : Rat) * dn k (dl x) 0)) (m + 1) := by
        refine sumN_congr fun b _ => ?_
        have h := absorbQ m b
        have c : ((b + 1 : Nat) : Rat) = (b : Rat) + 1 := by push_cast; rfl
        rw [dn_dl, c]
        grind
      rw [this]
      grind
    rw [e2]
    have c : ((m + 1 : Nat) : Rat) = (m : Rat) + 1 := by push_cast; rfl
    rw [c, Nat.add_sub_cancel]
    show x (m + 1) + _ * (_ * (x (m + 1) - x m)) = _
    grind
theorem raised_pow {row : List Pt} (h : 0 < row.length) : raisedR row = ofPowR (powersR row ++ [(0, 0)]) := by
  have hl : (powersR row ++ [((0, 0) : Pt)]).length = row.length + 1 := by rw [List.length_append, powersR_len]; rfl
  refine row_ext (by rw [raisedR_len, ofPowR_len, hl]) fun k hk => ?_
  rw [raisedR_len] at hk
  have ga : ∀ a, a < row.length → gp (powersR row ++ [((0, 0) : Pt)]) a = gp (powersR row) a := fun a ha => by
    unfold gp
    rw [List.getD_eq_getElem?_getD, List.getD_eq_getElem?_getD, List.getElem?_append_left (by rw [powersR_len]; exact ha)]
  have gn : gp (powersR row ++ [((0, 0) : Pt)]) row.length = (0, 0) := by
    unfold gp
    rw [List.getD_eq_getElem?_getD, List.getElem?_append_right (by rw [powersR_len]; exact Nat.le_refl _), powersR_len]
    simp
  have key : ∀ (x f : Nat → Rat), (∀ a, a < row.length → f a = (ch (row.length - 1) a : Rat) * dn a x 0) → f row.length = 0 → Nw (fun a => f a / (ch row.length a : Rat)) k = rz row.length x k := by
    intro x f h1 h2
    rw [← Nw_rz x h]
    refine Nw_loc fun a ha => ?_
    by_cases hlt : a < row.length
    · rw [h1 a hlt]
      obtain ⟨m, hm⟩ : ∃ m, row.length = m + 1 := ⟨row.length - 1, by omega⟩
      have hh := absorbQ' m a
      have hc := ch_ne (n := m + 1) (k := a) (by omega)
      have hn' : (m : Rat) + 1 ≠ 0 := by exact_mod_cast (show (m : Int) + 1 ≠ 0 by omega)
      have c : ((m + 1 : Nat) : Rat) = (m : Rat) + 1 := by push_cast; rfl
      rw [hm, Nat.add_sub_cancel, c]
      generalize (ch (m + 1) a : Rat) = u at *
      generalize (ch m a : Rat) = v at *
      generalize (m : Rat) + 1 = w at *
      generalize dn a x 0 = d at *
      have : v = u * (w - a) / w := by grind
      rw [this]
      grind
    · rw [show a = row.length by omega, h2]
      grind
  unfold raisedR ofPowR
  rw [hl, prs_gp hk, prs_gp hk, Nat.add_sub_cancel, key (px row) (px (powersR row ++ [((0, 0) : Pt)])) (fun a ha => by unfold px; rw [ga a ha]; exact (prs_px ha).1) (by unfold px; rw [gn]), key (py row) (py (powersR row ++ [((0, 0) : Pt)])) (fun a ha => by unfold py; rw [ga a ha]; exact (prs_px ha).2) (by unfold py; rw [gn])]
theorem pow_raised {row : List Pt} (h : 0 < row.length) : powersR (raisedR row) = powersR row ++ [(0, 0)] := by rw [raised_pow h, pow_of]
theorem eval_snoc (c : List Pt) (t : Rat) : evalR (c ++ [(0, 0)]) t = evalR c t := by
  have ga : ∀ a, a < c.length → gp (c ++ [((0, 0) : Pt)]) a = gp c a := fun a ha => by
    unfold gp
    rw [List.getD_eq_getElem?_getD, List.getD_eq_getElem?_getD, List.getElem?_append_left ha]
  have gn : gp (c ++ [((0, 0) : Pt)]) c.length = (0, 0) := by
    unfold gp
    rw [List.getD_eq_getElem?_getD, List.getElem?_append_right (Nat.le_refl _)]
    simp
  have hl : (c ++ [((0, 0) : Pt)]).length = c.length + 1 := by rw [List.length_append]; rfl
  unfold evalR
  rw [hl]
  refine Prod.ext ?_ ?_
  · show sumN _ c.length + t ^ c.length * px (c ++ [((0, 0) : Pt)]) c.length = _
    rw [show px (c ++ [((0, 0) : Pt)]) c.length = 0 by unfold px; rw [gn], sumN_congr (g := fun k => t ^ k * px c k) fun k hk => by unfold px; rw [ga k hk]]
    grind
  · show sumN _ c.length + t ^ c.length * py (c ++ [((0, 0) : Pt)]) c.length = _
    rw [show py (c ++ [((0, 0) : Pt)]) c.length = 0 by unfold py; rw [gn], sumN_congr (g := fun k => t ^ k * py c k) fun k hk => by unfold py; rw [ga k hk]]
    grind
theorem point_raised {t : Rat} {row : List Pt} (h : 0 < row.length) : pointR t (raisedR row) = pointR t row := by
  rw [point_pow (by rw [raisedR_len]; omega), pow_raised h, eval_snoc, ← point_pow h]
/-! ### speeds -/
def speedR (row : List Pt) : List Pt := if row.length = 1 then [(0, 0)] else prs (fun k => ((row.length - 1 : Nat) : Rat) * dl (px row) k) (fun k => ((row.length - 1 : Nat) : Rat) * dl (py row) k) (row.length - 1)
theorem speedR_len {row : List Pt} (h : 1 < row.length) : (speedR row).length = row.length - 1 := by unfold speedR; rw [if_neg (by omega), prs_len]
theorem dn_mul (c : Rat) : ∀ (k : Nat) (x : Nat → Rat), dn k (fun i => c * x i) = fun i => c * dn k x i
  | 0, _ => rfl
  | k + 1, x => by show dl (dn k fun i => c * x i) = _; rw [dn_mul c k x]; funext i; show c * dn k x (i + 1) - c * dn k x i = c * (dn k x (i + 1) - dn k x i); grind
theorem pow_speed {row : List Pt} {k : Nat} (h : 1 < row.length) (hk : k < row.length - 1) : gp (powersR (speedR row)) k = (((k : Rat) + 1) * px (powersR row) (k + 1), ((k : Rat) + 1) * py (powersR row) (k + 1)) := by
  have hl := speedR_len h
  obtain ⟨m, hm⟩ : ∃ m, row.length = m + 2 := ⟨row.length - 2, by omega⟩
  have key : ∀ x y : Nat → Rat, (∀ a, a < row.length - 1 → y a = ((row.length - 1 : Nat) : Rat) * dl x a) → (ch (row.length - 1 - 1) k : Rat) * dn k y 0 = ((k : Rat) + 1) * ((ch (row.length - 1) (k + 1) : Rat) * dn (k + 1) x 0) := by
    intro x y hy
    rw [dn_loc k y (fun i => ((row.length - 1 : Nat) : Rat) * dl x i) 0 fun j hj => by rw [Nat.zero_add]; exact hy j (by omega), dn_mul, ← dn_dl]
    have hh := absorbQ m k
    rw [hm, show m + 2 - 1 - 1 = m by omega, show m + 2 - 1 = m + 1 by omega]
    have c : ((m + 1 : Nat) : Rat) = (m : Rat) + 1 := by push_cast; rfl
    rw [c]
    grind
  have e : speedR row = prs (fun k => ((row.length - 1 : Nat) : Rat) * dl (px row) k) (fun k => ((row.length - 1 : Nat) : Rat) * dl (py row) k) (row.length - 1) := by unfold speedR; rw [if_neg (by omega)]
  unfold powersR
  rw [hl, prs_gp hk, (prs_px (show k + 1 < row.length by omega)).1, (prs_px (show k + 1 < row.length by omega)).2, key (px row) (px (speedR row)) fun a ha => by rw [e]; exact (prs_px ha).1, key (py row) (py (speedR row)) fun a ha => by rw [e]; exact (prs_px ha).2]
end C7
namespace C7
open PySem PySem.Spec PyProof.Rows L2
theorem av_globI {X : Cx} {ρ : Ro} {A : AH} {n : Str} {i : Int} {pos : Pos} (hg : Gl X n) (h : ∃ t, X.mg n = some (.int i t)) (hd : (n == ("__debug__" : Str)) = false := by decide) : AV X (.Name n pos) ρ A (.int i) := by
  obtain ⟨t, ht⟩ := h
  exact av_glob hg ht (v := .int i) ⟨t, rfl⟩ (fun _ => .int i) hd
theorem prs_succ (f g : Nat → Rat) (n : Nat) : prs f g (n + 1) = prs f g n ++ [(f n, g n)] := by unfold prs; rw [List.range_succ, List.map_append]; rfl
theorem rz_zero (n : Nat) (x : Nat → Rat) : rz n x 0 = x 0 := by
  unfold rz
  have : ((0 : Nat) : Rat) = 0 := rfl
  rw [this]
  grind
theorem rz_last {n : Nat} (x : Nat → Rat) (h : 0 < n) : rz n x n = x (n - 1) := by
  unfold rz
  have hn' : (n : Rat) ≠ 0 := by exact_mod_cast (show (n : Int) ≠ 0 by omega)
  grind
theorem on_rz {row : List Pt} {n i : Nat} : onWay (gp row (1 + i)) (gp row i) (((1 + (i : Int) : Int) : Rat) / (((n : Nat) : Int) : Rat)) = (rz n (px row) (i + 1), rz n (py row) (i + 1)) := by
  unfold onWay rz px py
  have c1 : ((1 + (i : Int) : Int) : Rat) = ((i + 1 : Nat) : Rat) := by push_cast; grind
  have c2 : (((n : Nat) : Int) : Rat) = (n : Rat) := by push_cast; rfl
  rw [c1, c2, Nat.add_sub_cancel, Nat.add_comm 1 i]
theorem Rw.raised {m : Nat} {row : List Pt} (h : Rw m row) (h0 : 0 < row.length) (hl : row.length ≤ 16) : Rw (m + 12) (raisedR row) := by
  obtain ⟨B, b0, b1, b2⟩ := h
  have hn : ((row.length : Nat) : Int).natAbs < 2 ^ 5 := by omega
  have hn' : (row.length : Rat) ≠ 0 := by exact_mod_cast (show (row.length : Int) ≠ 0 by omega)
  refine ⟨B * (row.length : Int), Int.mul_ne_zero b0 (by omega), bt_le (bt_mul b1 hn) (by omega), fun p hp => ?_⟩
  unfold raisedR prs at hp
  rw [List.mem_map] at hp
  obtain ⟨k, hk, rfl⟩ := hp
  have hk := List.mem_range.mp hk
  have key : ∀ x : Nat → Rat, (∀ a, a < row.length → Ov B m (x a)) → Ov (B * (row.length : Int)) (m + 12) (rz row.length x k) := by
    intro x hx
    by_cases hk0 : k = 0
    · rw [hk0, rz_zero]
      exact ((hx 0 h0).lift (by omega) hn).up (by omega)
    by_cases hkn : k = row.length
    · rw [hkn, rz_last x h0]
      exact ((hx _ (by omega)).lift (by omega) hn).up (by omega)
    have e : rz row.length x k = (x k * (((row.length : Int) - k : Int) : Rat) + x (k - 1) * ((k : Int) : Rat)) / (((row.length : Int) : Int) : Rat) := by
      unfold rz
      push_cast
      grind
    obtain ⟨N1, e1, n1⟩ := hx k (by omega)
    obtain ⟨N2, e2, n2⟩ := hx (k - 1) (by omega)
    refine ⟨N1 * ((row.length : Int) - k) + N2 * k, ?_, bt_le (bt_add (bt_mul n1 (show ((row.length : Int) - k).natAbs < 2 ^ 5 by omega)) (bt_mul n2 (show ((k : Nat) : Int).natAbs < 2 ^ 5 by omega))) (by omega)⟩
    have hB : (B : Rat) ≠ 0 := fun z => b0 (by exact_mod_cast z)
    rw [e, e1, e2]
    push_cast
    generalize (B : Rat) = b at *
    generalize (row.length : Rat) = l at *
    grind
  exact ⟨key (px row) fun a ha => (b2 _ (gp_mem ha)).1, key (py row) fun a ha => (b2 _ (gp_mem ha)).2⟩
end C7
namespace C7
open PySem PySem.Spec PyProof.Rows L2
def stepR (p q : Pt) : Pt := (q.1 - p.1, q.2 - p.2)
def difR (j : Nat) (row : List Pt) : List Pt := prs (dn j (px row)) (dn j (py row)) (row.length - j)
theorem difR_len (j : Nat) (row : List Pt) : (difR j row).length = row.length - j := prs_len _ _ _
theorem difR_zero (row : List Pt) : difR 0 row = row := prs_self row
theorem difR_step {j k : Nat} {row : List Pt} (h : k + 1 < row.length - j) : stepR (gp (difR j row) k) (gp (difR j row) (k + 1)) = (dn (j + 1) (px row) k, dn (j + 1) (py row) k) := by
  unfold difR
  rw [prs_gp (by omega), prs_gp h]
  rfl
theorem difR_succ (j : Nat) (row : List Pt) : (List.range ((difR j row).length - 1)).map (fun k => stepR (gp (difR j row) k) (gp (difR j row) (k + 1))) = difR (j + 1) row := by
  rw [difR_len]
  unfold difR
  refine (List.map_congr_left fun k hk => ?_).trans (show (List.range (row.length - j - 1)).map (fun k => (dn (j + 1) (px row) k, dn (j + 1) (py row) k)) = _ by rw [show row.length - j - 1 = row.length - (j + 1) by omega]; rfl)
  exact difR_step (by have := List.mem_range.mp hk; omega)
theorem ov_dn {B : Int} {m : Nat} {x : Nat → Rat} {n : Nat} (h : ∀ a, a < n → Ov B m (x a)) : ∀ k i, i + k < n → Ov B (m + k) (dn k x i) := by
  intro k
  induction k with
  | zero => intro i hi; exact h i hi
  | succ k ih => intro i hi; exact (ov_sub (ih (i + 1) (by omega)) (ih i (by omega))).up (by omega)
theorem Rw.dif {m : Nat} {row : List Pt} (h : Rw m row) (j : Nat) : Rw (m + j) (difR j row) := by
  obtain ⟨B, b0, b1, b2⟩ := h
  refine ⟨B, b0, bt_le b1 (by omega), fun p hp => ?_⟩
  unfold difR prs at hp
  rw [List.mem_map] at hp
  obtain ⟨k, hk, rfl⟩ := hp
  have hk := List.mem_range.mp hk
  exact ⟨ov_dn (n := row.length) (fun a ha => (b2 _ (gp_mem ha)).1) j k (by omega), ov_dn (n := row.length) (fun a ha => (b2 _ (gp_mem ha)).2) j k (by omega)⟩
/-- the first of each row of differences -/
def headsR (row : List Pt) : List Pt := prs (fun j => dn j (px row) 0) (fun j => dn j (py row) 0) row.length
theorem headsR_len (row : List Pt) : (headsR row).length = row.length := prs_len _ _ _
theorem headsR_get {row : List Pt} {j : Nat} (h : j < row.length) : headsR row = headsR row ∧ (headsR row).getD j (0, 0) = gp (difR j row) 0 := by
  refine ⟨rfl, ?_⟩
  unfold difR
  rw [prs_gp (by omega)]
  exact prs_gp h
end C7
namespace C7
open PySem PySem.Spec PyProof.Rows L2
def dueR (row : List Pt) : List Pt := if row.length = 1 then [(0, 0)] else prs (fun k => ((k : Rat) + 1) * px (powersR row) (k + 1)) (fun k => ((k : Rat) + 1) * py (powersR row) (k + 1)) (row.length - 1)
theorem pow_due {row : List Pt} (h : 0 < row.length) : powersR (speedR row) = dueR row := by
  by_cases h1 : row.length = 1
  · have e : speedR row = [(0, 0)] := by unfold speedR; rw [if_pos h1]
    have e2 : dueR row = [(0, 0)] := by unfold dueR; rw [if_pos h1]
    rw [e, e2]
    refine row_ext (by rw [powersR_len]) fun k hk => ?_
    rw [powersR_len] at hk
    have hk0 : k = 0 := by simp at hk; exact hk
    subst hk0
    unfold powersR
    rw [prs_gp (by decide)]
    show (((ch 0 0 : Nat) : Rat) * 0, ((ch 0 0 : Nat) : Rat) * 0) = (0, 0)
    refine Prod.ext ?_ ?_
    · show ((ch 0 0 : Nat) : Rat) * 0 = 0; grind
    · show ((ch 0 0 : Nat) : Rat) * 0 = 0; grind
  · have hl := speedR_len (show 1 < row.length by omega)
    have e2 : dueR row = prs (fun k => ((k : Rat) + 1) * px (powersR row) (k + 1)) (fun k => ((k : Rat) + 1) * py (powersR row) (k + 1)) (row.length - 1) := by unfold dueR; rw [if_neg h1]
    rw [e2]
    refine row_ext (by rw [powersR_len, hl, prs_len]) fun k hk => ?_
    rw [powersR_len, hl] at hk
    rw [pow_speed (by omega) hk, prs_gp hk]
theorem speed_pos {row : List Pt} (h : 0 < row.length) : 0 < (speedR row).length ∧ (speedR row).length ≤ row.length ∧ ((speedR row).length : Int) = (if (row.length : Int) - 1 > 1 then (row.length : Int) - 1 else 1) := by
  unfold speedR
  split
  · rename_i e; rw [if_neg (by omega)]; exact ⟨Nat.one_pos, by show 1 ≤ _; omega, rfl⟩
  · rw [prs_len]
    refine ⟨by omega, by omega, ?_⟩
    split <;> omega
theorem Rw.speed {m : Nat} {row : List Pt} (h : Rw m row) (h0 : 0 < row.length) (hl : row.length ≤ 16) : Rw (m + 6) (speedR row) := by
  by_cases h1 : row.length = 1
  · have e : speedR row = [(0, 0)] := by unfold speedR; rw [if_pos h1]
    rw [e]
    refine ⟨1, by decide, Nat.one_lt_two_pow (by omega), fun p hp => ?_⟩
    rw [List.mem_singleton.mp hp]
    have z : Ov 1 (m + 6) (0 : Rat) := ⟨0, by push_cast; grind, Nat.pow_pos (by decide)⟩
    exact ⟨z, z⟩
  · obtain ⟨B, b0, b1, b2⟩ := h
    refine ⟨B, b0, bt_le b1 (by omega), fun p hp => ?_⟩
    have e : speedR row = prs (fun k => ((row.length - 1 : Nat) : Rat) * dl (px row) k) (fun k => ((row.length - 1 : Nat) : Rat) * dl (py row) k) (row.length - 1) := by unfold speedR; rw [if_neg h1]
    rw [e] at hp
    unfold prs at hp
    rw [List.mem_map] at hp
    obtain ⟨k, hk, rfl⟩ := hp
    have hk := List.mem_range.mp hk
    have key : ∀ x : Nat → Rat, (∀ a, a < row.length → Ov B m (x a)) → Ov B (m + 6) (((row.length - 1 : Nat) : Rat) * dl x k) := by
      intro x hx
      obtain ⟨N, eN, hN⟩ := ov_sub (hx (k + 1) (by omega)) (hx k (by omega))
      refine ⟨((row.length - 1 : Nat) : Int) * N, ?_, bt_le (bt_mul (show (((row.length - 1 : Nat) : Int)).natAbs < 2 ^ 5 by omega) hN) (by omega)⟩
      have c : (((((row.length - 1 : Nat) : Int) * N : Int)) : Rat) = ((row.length - 1 : Nat) : Rat) * N := by push_cast; rfl
      show _ * (x (k + 1) - x k) = _
      rw [eN, c]
      grind
    exact ⟨key (px row) fun a ha => (b2 _ (gp_mem ha)).1, key (py row) fun a ha => (b2 _ (gp_mem ha)).2⟩
end C7
namespace C7
open PySem PySem.Spec PyProof.Rows L2
theorem Rw.powers {m l : Nat} {row : List Pt} (h : Rw m row) (hl : row.length ≤ l) : Rw (m + 2 * l + 1) (powersR row) := by
  obtain ⟨B, b0, b1, b2⟩ := h
  refine ⟨B, b0, bt_le b1 (by omega), fun p hp => ?_⟩
  unfold powersR prs at hp
  rw [List.mem_map] at hp
  obtain ⟨k, hk, rfl⟩ := hp
  have hk := List.mem_range.mp hk
  have key : ∀ x : Nat → Rat, (∀ a, a < row.length → Ov B m (x a)) → Ov B (m + 2 * l + 1) ((ch (row.length - 1) k : Rat) * dn k x 0) := by
    intro x hx
    obtain ⟨N, eN, hN⟩ := ov_dn (n := row.length) hx k 0 (by omega)
    have hc : ((ch (row.length - 1) k : Nat) : Int).natAbs < 2 ^ (l + 1) := by
      rw [Int.natAbs_natCast]
      exact Nat.lt_of_le_of_lt (ch_le _ _) (Nat.pow_lt_pow_right (by decide) (by omega))
    refine ⟨((ch (row.length - 1) k : Nat) : Int) * N, ?_, bt_le (bt_mul hc hN) (by omega)⟩
    have c : ((((ch (row.length - 1) k : Nat) : Int) * N : Int) : Rat) = (ch (row.length - 1) k : Rat) * N := by push_cast; rfl
    rw [eN, c]
    grind
  exact ⟨key (px row) fun a ha => (b2 _ (gp_mem ha)).1, key (py row) fun a ha => (b2 _ (gp_mem ha)).2⟩
end C7
namespace C7
open PySem PySem.Spec PyProof.Rows L2
/-- points, each times its share, summed -/
def sumR (row : List Pt) (ts : List Rat) : Nat → Pt
  | 0 => (0, 0)
  | i + 1 => ((sumR row ts i).1 + ts.getD i 0 * (row.getD i (0, 0)).1, (sumR row ts i).2 + ts.getD i 0 * (row.getD i (0, 0)).2)
theorem sumR_sumN (row : List Pt) (ts : List Rat) : ∀ n, sumR row ts n = (sumN (fun k => ts.getD k 0 * px row k) n, sumN (fun k => ts.getD k 0 * py row k) n)
  | 0 => rfl
  | n + 1 => by
    show ((sumR row ts n).1 + _, (sumR row ts n).2 + _) = _
    rw [sumR_sumN row ts n]
    rfl
theorem ov_sumN {B : Int} {m : Nat} {f : Nat → Rat} : ∀ n, (∀ k, k < n → Ov B m (f k)) → Ov B (m + n) (sumN f n)
  | 0, _ => ⟨0, by show (0 : Rat) = _; push_cast; grind, Nat.pow_pos (by decide)⟩
  | n + 1, h => (ov_add (ov_sumN n fun k hk => h k (by omega)) (h n (by omega))).up (by omega)
theorem Rw.sum {m n l : Nat} {row : List Pt} {ts : List Rat} (h : Rw m row) (ht : ∀ t ∈ ts, Sz n t) (hl : ts.length ≤ l) (hr : ts.length ≤ row.length) : ∀ i, i ≤ ts.length → SzP (m + (l + 1) * n + l + 2) (sumR row ts i) := by
  obtain ⟨B, b0, b1, b2⟩ := h
  have hD0 := dens_ne ts
  have hD := dens_bt (n := n) ts ht
  intro i hi
  have key : ∀ x : Nat → Rat, (∀ a, a < row.length → Ov B m (x a)) → Ov (B * dens ts) (m + (l + 1) * n + l + 2) (sumN (fun k => ts.getD k 0 * x k) i) := by
    intro x hx
    have e1 : ts.length * n ≤ l * n := Nat.mul_le_mul_right _ hl
    have e2 : (l + 1) * n = l * n + n := Nat.succ_mul _ _
    refine (ov_sumN (m := m + (n + (ts.length * n + 1))) i fun k hk => ?_).up (by omega)
    have hm : ts.getD k 0 ∈ ts := by rw [List.getD_eq_getElem?_getD, List.getElem?_eq_getElem (show k < ts.length by omega)]; exact List.getElem_mem _
    have := (ov_mul (ov_dvd (ht _ hm) (dens_dvd hm) hD0 hD) (hx k (by omega))).comm
    exact this.up (by omega)
  have hB : (B * dens ts).natAbs < 2 ^ (m + (l + 1) * n + l + 2) := by
    have e1 : ts.length * n ≤ l * n := Nat.mul_le_mul_right _ hl
    have e2 : (l + 1) * n = l * n + n := Nat.succ_mul _ _
    exact bt_le (bt_mul b1 hD) (by omega)
  rw [sumR_sumN]
  exact ⟨ov_sz (Int.mul_ne_zero b0 hD0) hB (key (px row) fun a ha => (b2 _ (gp_mem ha)).1), ov_sz (Int.mul_ne_zero b0 hD0) hB (key (py row) fun a ha => (b2 _ (gp_mem ha)).2)⟩
end C7
namespace C7
open PySem PySem.Spec PyProof.Rows L2
def partI (n k a : Nat) : Int := ((ch n k : Nat) : Int) * ((ch k a : Nat) : Int) * (1 - 2 * (((k : Int) - (a : Int)) % 2))
def partsR (n k j : Nat) : List Rat := (List.range j).map fun a => ((partI n k a : Int) : Rat)
theorem partsR_len (n k j : Nat) : (partsR n k j).length = j := by unfold partsR; simp
theorem partsR_get {n k j a : Nat} (h : a < j) : (partsR n k j).getD a 0 = ((partI n k a : Int) : Rat) := by
  unfold partsR
  rw [List.getD_eq_getElem?_getD, List.getElem?_map, List.getElem?_range h]
  rfl
theorem partI_bt {n k a : Nat} (hn : n ≤ 12) (hk : k ≤ 12) : (partI n k a).natAbs < 2 ^ 27 := by
  have h1 : ((ch n k : Nat) : Int).natAbs < 2 ^ 13 := by rw [Int.natAbs_natCast]; exact Nat.lt_of_le_of_lt (ch_le _ _) (Nat.pow_lt_pow_right (by decide) (by omega))
  have h2 : ((ch k a : Nat) : Int).natAbs < 2 ^ 13 := by rw [Int.natAbs_natCast]; exact Nat.lt_of_le_of_lt (ch_le _ _) (Nat.pow_lt_pow_right (by decide) (by omega))
  exact bt_mul (a := 26) (b := 1) (bt_mul h1 h2) (by omega)
theorem partI_eq {n k a : Nat} (h : a ≤ k) : ((partI n k a : Int) : Rat) = (ch n k : Rat) * ((ch k a : Rat) * sg (k - a)) := by
  have e : (((1 - 2 * (((k : Int) - (a : Int)) % 2) : Int)) : Rat) = sg (k - a) := by
    unfold sg
    rcases Nat.mod_two_eq_zero_or_one (k - a) with h2 | h2
    · rw [if_pos h2, show ((k : Int) - (a : Int)) % 2 = 0 by omega]; rfl
    · rw [if_neg (by omega), show ((k : Int) - (a : Int)) % 2 = 1 by omega]; rfl
  have c : ((partI n k a : Int) : Rat) = (ch n k : Rat) * (ch k a : Rat) * (((1 - 2 * (((k : Int) - (a : Int)) % 2) : Int)) : Rat) := by unfold partI; push_cast; rfl
  rw [c, e]
  grind
theorem sum_parts {row : List Pt} {n k : Nat} (hk : k < row.length) : sumR row (partsR n k (k + 1)) (partsR n k (k + 1)).length = ((ch n k : Rat) * dn k (px row) 0, (ch n k : Rat) * dn k (py row) 0) := by
  have key : ∀ x : Nat → Rat, sumN (fun a => (partsR n k (k + 1)).getD a 0 * x a) (k + 1) = (ch n k : Rat) * dn k x 0 := by
    intro x
    rw [dn_sum, ← sumN_mul]
    refine sumN_congr fun a ha => ?_
    rw [partsR_get ha, partI_eq (by omega), Nat.zero_add]
    grind
  rw [partsR_len, sumR_sumN, key, key]
def wsR (n k : Nat) : List Rat := (List.range (k + 1)).map fun a => (((ch k a : Nat) : Int) : Rat) / (((ch n a : Nat) : Int) : Rat)
theorem wsR_len (n k : Nat) : (wsR n k).length = k + 1 := by unfold wsR; simp
theorem wsR_get {n k a : Nat} (h : a < k + 1) : (wsR n k).getD a 0 = (ch k a : Rat) / (ch n a : Rat) := by
  unfold wsR
  rw [List.getD_eq_getElem?_getD, List.getElem?_map, List.getElem?_range h]
  show (((ch k a : Nat) : Int) : Rat) / (((ch n a : Nat) : Int) : Rat) = _
  push_cast
  rfl
theorem sum_ws (c : List Pt) (n k : Nat) : sumR c (wsR n k) (wsR n k).length = (Nw (fun a => px c a / (ch n a : Rat)) k, Nw (fun a => py c a / (ch n a : Rat)) k) := by
  have key : ∀ x : Nat → Rat, sumN (fun a => (wsR n k).getD a 0 * x a) (k + 1) = Nw (fun a => x a / (ch n a : Rat)) k := by
    intro x
    refine sumN_congr fun a ha => ?_
    rw [wsR_get ha]
    grind
  rw [wsR_len, sumR_sumN, key, key]
theorem ws_sz {n k : Nat} (hn : n ≤ 12) (hk : k ≤ n) : ∀ t ∈ wsR n k, Sz 14 t := fun t ht => by
  unfold wsR at ht
  rw [List.mem_map] at ht
  obtain ⟨a, ha, rfl⟩ := ht
  have ha := List.mem_range.mp ha
  have hp := ch_pos (n := n) (k := a) (by omega)
  refine sz_div (by omega) rfl ?_ ?_
  · rw [Int.natAbs_natCast]; exact Nat.lt_of_le_of_lt (ch_le _ _) (Nat.pow_lt_pow_right (by decide) (by omega))
  · rw [Int.natAbs_natCast]; exact Nat.lt_of_le_of_lt (ch_le _ _) (Nat.pow_lt_pow_right (by decide) (by omega))
theorem wy_get {n k : Nat} (h : k < n + 1) : ((List.range (n + 1)).map fun k => ((ch n k : Nat) : Int)).getD k 0 = ((ch n k : Nat) : Int) := by
  rw [List.getD_eq_getElem?_getD, List.getElem?_map, List.getElem?_range h]
  rfl
end C7
namespace C7
open PySem PySem.Spec PyProof.Rows L2
theorem cutL_init {β : Type} (xs : List β) (h : 0 < xs.length) : cutL xs none (some (-1)) = xs.take (xs.length - 1) := by
  unfold cutL
  rw [HT.sIx_none]
  have : HT.sIx xs.length xs.length (some (-1)) = xs.length - 1 := by
    unfold HT.sIx
    simp
    omega
  rw [this]
  simp
def loweredR (row : List Pt) : List Pt := ofPowR ((powersR row).take (row.length - 1))
theorem loweredR_len {row : List Pt} : (loweredR row).length = row.length - 1 := by unfold loweredR; rw [ofPowR_len, List.length_take, powersR_len]; omega
theorem lowered_raised {row : List Pt} (h : 0 < row.length) : loweredR (raisedR row) = row := by
  unfold loweredR
  rw [pow_raised h, raisedR_len, Nat.add_sub_cancel]
  have : (powersR row ++ [((0, 0) : Pt)]).take row.length = powersR row := by rw [List.take_append_of_le_length (by rw [powersR_len]; exact Nat.le_refl _), List.take_of_length_le (by rw [powersR_len]; exact Nat.le_refl _)]
  rw [this, of_pow]
theorem last_raised {row : List Pt} (h : 0 < row.length) : gp (powersR (raisedR row)) row.length = (0, 0) := by
  rw [pow_raised h]
  unfold gp
  rw [List.getD_eq_getElem?_getD, List.getElem?_append_right (by rw [powersR_len]; exact Nat.le_refl _), powersR_len]
  simp
theorem raised_lowered {row : List Pt} (h : 1 < row.length) (h0 : gp (powersR row) (row.length - 1) = (0, 0)) : raisedR (loweredR row) = row := by
  rw [raised_pow (by rw [loweredR_len]; omega)]
  unfold loweredR
  rw [pow_of]
  have e : (powersR row).take (row.length - 1) ++ [((0, 0) : Pt)] = powersR row := by
    refine row_ext (by rw [List.length_append, List.length_take, powersR_len]; simp; omega) fun k hk => ?_
    rw [List.length_append, List.length_take, powersR_len] at hk
    simp at hk
    by_cases hlt : k < row.length - 1
    · unfold gp
      rw [List.getD_eq_getElem?_getD, List.getD_eq_getElem?_getD, List.getElem?_append_left (by rw [List.length_take, powersR_len]; omega), List.getElem?_take_of_lt hlt]
    · rw [show k = row.length - 1 by omega, h0]
      unfold gp
      rw [List.getD_eq_getElem?_getD, List.getElem?_append_right (by rw [List.length_take, powersR_len]; omega), List.length_take, powersR_len, show row.length - 1 - min (row.length - 1) row.length = 0 by omega]
      rfl
  rw [e, of_pow]
def rIter (row : List Pt) : Nat → List Pt
  | 0 => row
  | j + 1 => raisedR (rIter row j)
theorem rIter_len (row : List Pt) : ∀ j, (rIter row j).length = row.length + j
  | 0 => rfl
  | j + 1 => by show (raisedR (rIter row j)).length = _; rw [raisedR_len, rIter_len row j]; omega
theorem Rw.rIter {m : Nat} {row : List Pt} (h : Rw m row) (h0 : 0 < row.length) : ∀ j, row.length + j ≤ 13 → Rw (m + 12 * j) (C7.rIter row j)
  | 0, _ => h
  | j + 1, hj => ((Rw.rIter h h0 j (by omega)).raised (by rw [rIter_len]; omega) (by rw [rIter_len]; omega)).up (by omega)
end C7
namespace C7
open PySem PySem.Spec PyProof.Rows L2
theorem wk_down (K : Frag) (H0 : Hp) (lo : Int) (n : Nat) : Wk K H0 (Itc lo (-1) n) (fun _ => True) n (fun i => .int (lo - (i : Int))) where
  go := fun i H A h _ _ _ => h
  yl := fun i H A x H' h _ r _ y => by
    obtain ⟨rfl, rfl⟩ := y
    refine ⟨TS.refl _, r, ?_⟩
    rw [show lo + (i : Nat) * (-1 : Int) = lo - (i : Int) by omega]
    exact .int _
  st := fun H A _ _ _ => Nat.le_refl n
theorem ai_down {X : Cx} {ρ : Ro} {A : AH} {a b c tg : Expr} {p0 pos : Pos} {i j : Int} {kI : AH → (AH → Prop) → Nat → (Nat → D) → Prop} (hg : Gl X "range") (hm : X.mg "range" = none) (h : AVs X [a, b, c] ρ A [.int i, .int j, .int (-1)])
    (h1 : -(2 ^ 62) ≤ i) (h2 : i < 2 ^ 62) (h3 : -(2 ^ 62) ≤ j) (h4 : j < 2 ^ 62) (q : kI A (fun _ => True) (i - j).toNat (fun m => .int (i - (m : Int)))) (hs : isStar a = false := by rfl) (hpl : (backTo pos (starEach [b, c] X.env)).any (·.1) = false := by rfl) :
    AI X tg (.Call (.Name "range" p0) [a, b, c] [] pos) ρ A kI := fun σ H s R qq =>
  tmi_of (pi_range3 hg hm (pa_tm [a, b, c]) (star_cons hs) hpl) (h σ H s _ fun vs H1 t1 r1 l1 => by
    cases r1 with
    | cons r1 r =>
      cases r with
      | cons r2 r =>
        cases r with
        | cons r3 r =>
          cases r
          rw [r1.int_of, r2.int_of, r3.int_of]
          exact ⟨i, j, -1, _, rfl, RgC.neg h1 h2 h3 h4, qq _ H1 A _ _ _ t1 l1 (wk_down X.K H1 i (i - j).toNat) q⟩)
end C7
namespace C7
open PySem PySem.Spec PyProof.Rows L2
/-- one seat moved by a share along an axis -/
theorem Rw.setOne {m n : Nat} {row : List Pt} {i : Nat} {z : Pt} {mo : Rat} (h : Rw m row) (hz : Sz n mo) (hq : ∃ (p : Pt) (a b : Rat), p ∈ row ∧ (a = 0 ∨ a = mo) ∧ (b = 0 ∨ b = mo) ∧ z = (p.1 + a, p.2 + b)) : Rw (m + n + 1) (row.set i z) := by
  obtain ⟨B, b0, b1, b2⟩ := h
  obtain ⟨p, a, b, hp, ha, hb, rfl⟩ := hq
  have hd := den_pos mo
  refine ⟨B * (mo.den : Int), Int.mul_ne_zero b0 (by omega), bt_le (bt_mul b1 hz.den) (by omega), fun q hq => ?_⟩
  have l : ∀ q ∈ row, OvP (B * (mo.den : Int)) (m + n) q := fun q hq => (b2 q hq).lift (by omega) hz.den
  have om : Ov (B * (mo.den : Int)) (m + n) mo := by
    have : Ov (mo.den : Int) n mo := ⟨mo.num, by have := rat_eq mo; push_cast; exact this, hz.num⟩
    exact ((this.lift b0 b1).comm).up (by omega)
  have oz : Ov (B * (mo.den : Int)) (m + n) (0 : Rat) := ⟨0, by push_cast; grind, Nat.pow_pos (by decide)⟩
  have oa : Ov (B * (mo.den : Int)) (m + n) a := ha.elim (fun e => e ▸ oz) fun e => e ▸ om
  have ob : Ov (B * (mo.den : Int)) (m + n) b := hb.elim (fun e => e ▸ oz) fun e => e ▸ om
  rcases List.mem_or_eq_of_mem_set hq with h | h
  · exact (l q h).up (by omega)
  · rw [h]
    exact ⟨(ov_add (l p hp).1 oa).up (by omega), (ov_add (l p hp).2 ob).up (by omega)⟩
end C7
namespace C7
open PySem PySem.Spec PyProof.Rows L2
/-! ### sets of pairs of whole numbers, sorted -/
def leP (p q : Int × Int) : Bool := decide (p.1 < q.1 ∨ (p.1 = q.1 ∧ p.2 ≤ q.2))
abbrev pairOf (b : Addr × List Int) : Int × Int := (b.2.getD 0 0, b.2.getD 1 0)
theorem refs_back {M : List (Addr × List Int)} : ∀ ws : List Value, (∀ u ∈ ws, ∃ z ∈ M, u = Value.ref z.1) → ∃ N : List (Addr × List Int), (∀ z ∈ N, z ∈ M) ∧ ws = N.map fun z => Value.ref z.1
  | [], _ => ⟨[], fun _ h => (nomatch h), rfl⟩
  | u :: ws, h => by
    obtain ⟨N, n1, n2⟩ := refs_back ws fun v hv => h v (List.mem_cons_of_mem _ hv)
    obtain ⟨z, z1, z2⟩ := h u List.mem_cons_self
    refine ⟨z :: N, fun y hy => ?_, by rw [n2, z2]; rfl⟩
    cases hy with
    | head => exact z1
    | tail _ hy => exact n1 y hy
theorem each_refs {M : List (Addr × List Int)} : ∀ {N : List (Addr × List Int)} {ws : List Value}, PySem.W.EachIs (fun (v : Value) (b : Addr × List Int) => v = Value.ref b.1) ws N → ws = N.map fun z => Value.ref z.1
  | _, _, .nil => rfl
  | _, _, .cons h t => by rw [h, each_refs (M := M) t]; rfl
theorem refs_each {R : Value → (Addr × List Int) → Prop} : ∀ N : List (Addr × List Int), (∀ z ∈ N, R (Value.ref z.1) z) → PySem.W.EachIs R (N.map fun z => Value.ref z.1) N
  | [], _ => .nil
  | z :: N, h => .cons (h z List.mem_cons_self) (refs_each N fun y hy => h y (List.mem_cons_of_mem _ hy))
section
variable {P : Program} {w : World} {A : Around} {E : Value → Shared → Prop} {s : Shared}
theorem sorted_setP {a : Addr} {M : List (Addr × List Int)} {es : Array (Int × Value)} {ep : Nat} {tb : SetTable} {Q : Value → Shared → Prop} (R : SetTR P w s.heap a M es ep tb) (hh : A.handled = none) (hu : A.units + 10 < cLine)
    (h2 : ∀ z ∈ M, ∃ x y, z.2 = [x, y])
    (hQ : ∀ s' p (out : Array Value) (c : Nat), (∀ b o, s.heap.get? b = some o → s'.heap.get? b = some o) ∧ s'.gens = s.gens ∧ s'.os = s.os ∧ s.heap.objs.size ≤ p ∧ s'.heap.get? p = some (seqObj "list" out c) →
      ∀ N : List (Addr × List Int), out.toList = N.map (fun z => Value.ref z.1) → N.Perm M → N.Pairwise (fun x y => leP (pairOf x) (pairOf y) = true) → Q (.ref p) s') : wpAny (model P w) A (call (.builtin "sorted") [.ref a]) Q E s := by
  obtain ⟨ob, hob, hex, hdt⟩ := R.ob
  have few := R.few
  have sz := R.size
  refine Calls.call_function_entry kind_sorted plain_sorted entry_sorted (args_sorted1 _) ?_
  show wpAny _ _ (Builtin.«sorted» _) _ _ _
  unfold Builtin.«sorted»
  refine wpAny_bind (m := checkCount "sorted" 1 1 _) (wpAny_pure (wpAny_bind (collect_set (A := A.in1) hh ⟨ob, hob, hex.1, hdt⟩ R.fits (by unfold scanBound; omega) R.tab.ris R.led fun s1 vs k1 hz g1 o1 pm => ?_)))
  have hes : es.toList.map (·.2) = M.map fun z => Value.ref z.1 := by rw [R.rows]; unfold rowsOf; rw [List.map_map]; rfl
  rw [hes] at pm
  have uniq : ∀ x ∈ M, ∀ y ∈ M, x.1 = y.1 → x = y := fun x hx y hy e => by
    have u1 := R.tup x hx
    rw [e] at u1
    exact Prod.ext e (u1.inj (R.tup y hy))
  obtain ⟨N, n1, n2⟩ := refs_back (M := M) vs fun v hv => by
    obtain ⟨z, hz, e⟩ := List.mem_map.mp (pm.mem_iff.mp hv)
    exact ⟨z, hz, e.symm⟩
  have nM : M.Nodup := nodup_of_map R.nd
  have nR : (M.map fun z => Value.ref z.1).Nodup := List.pairwise_map.mpr (List.Pairwise.imp_of_mem (fun {x y} hx hy ne e => by
    injection e with e
    exact ne (uniq x hx y hy e)) nM)
  have nN : N.Nodup := nodup_of_map (f := fun z => Value.ref z.1) (by rw [← n2]; exact pm.nodup_iff.mpr nR)
  have pN : N.Perm M := (List.perm_ext_iff_of_nodup nN nM).mpr fun z => ⟨n1 z, fun hz => by
    have m1 : Value.ref z.1 ∈ vs := pm.mem_iff.mpr (List.mem_map.mpr ⟨z, hz, rfl⟩)
    rw [n2] at m1
    obtain ⟨y, hy, e⟩ := List.mem_map.mp m1
    injection e with e
    rw [← uniq y (n1 y hy) z hz e]
    exact hy⟩
  have nl : N.length = M.length := pN.length_eq
  have vl : vs.length < 64 := by rw [n2, List.length_map]; omega
  refine wpAny_bind (wpAny_newList ?_ (by rw [sizeLine_eq]; omega))
  have hL : (s1.heap.push (seqObj "list" vs.toArray 0)).get? s1.heap.objs.size = some (seqObj "list" vs.toArray 0) := Heap.get?_push_size _ rfl
  have rd : ∀ z ∈ N, ∃ as, Reads (s1.heap.push (seqObj "list" vs.toArray 0)) (Value.ref z.1) (.tuple [.int (z.2.getD 0 0), .int (z.2.getD 1 0)]) as ∧ s1.heap.objs.size ∉ as := fun z hz => by
    obtain ⟨o, its, n, ho, hc, hd, hi⟩ := R.tup z (n1 z hz)
    obtain ⟨x, y, e⟩ := h2 z (n1 z hz)
    have hi' := ints_of_items hi
    rw [e] at hi' ⊢
    refine ⟨[], .tuple (Heap.get?_push_of_some _ (k1 _ _ ho)) hc hd ?_, fun z => nomatch z⟩
    generalize its.toList = us at hi'
    cases hi' with
    | cons p t hi2 =>
      cases hi2 with
      | cons q u hi3 =>
        cases hi3
        exact .cons (.int _ _) (.cons (.int _ _) .nil)
  refine wpAny_bind (wpAny_holding (PySem.W.list_sort_data (s := { s1 with heap := s1.heap.push (seqObj "list" vs.toArray 0) }) (bs := N) (R := fun (v : Value) (b : Addr × List Int) => v = Value.ref b.1) (enc := fun b => .tuple [.int (b.2.getD 0 0), .int (b.2.getD 1 0)]) hL (by rw [n2]; exact refs_each N fun z _ => rfl) (by rw [n2] at rd ⊢; exact refs_each N rd) ?_ ?_ (by rw [sizeLine_eq]; omega) ?_ fun out ol oe => ?_))
  · intro d1 hd1 d2 hd2
    obtain ⟨x, _, rfl⟩ := List.mem_map.mp hd1
    obtain ⟨y, _, rfl⟩ := List.mem_map.mp hd2
    rfl
  · refine .inl fun d hd => ?_
    obtain ⟨x, _, rfl⟩ := List.mem_map.mp hd
    exact ⟨_, _, rfl⟩
  · intro b _
    show _ + 1 + PyData.depth (.tuple [.int _, .int _]) < cLine
    have : PyData.depth (.tuple [.int (b.2.getD 0 0), .int (b.2.getD 1 0)]) ≤ 1 := by simp [PyData.depth, PyData.depthAll]
    have : A.in1.units ≤ A.units + 1 := by first | exact Nat.le_refl _ | (show _ ≤ _; simp [Around.in1]) | omega
    omega
  obtain ⟨c, hc⟩ := sortedHeap_at (vs := vs) (out := out.toArray) hL
  have eo := each_refs (M := M) oe
  refine wpAny_pure ⟨_, rfl, hQ _ s1.heap.objs.size out.toArray c ⟨fun b u e => ?_, g1, o1, hz, hc⟩ _ (by rw [List.toList_toArray]; exact eo) ((List.mergeSort_perm _ _).trans pN) ?_⟩
  · have q := k1 b u e
    have lt := Heap.lt_size q
    refine (sortedHeap_old (Nat.ne_of_lt lt) ?_).trans (Heap.get?_push_of_some _ q)
    rw [size_push']
    exact Nat.lt_succ_of_lt lt
  · have le : PySem.W.dataLe false (fun b : Addr × List Int => PyData.tuple [.int (b.2.getD 0 0), .int (b.2.getD 1 0)]) = fun x y => leP (pairOf x) (pairOf y) := PySem.W.dataLe_ii (fun b : Addr × List Int => b.2.getD 0 0) (fun b => b.2.getD 1 0)
    rw [le]
    refine List.pairwise_mergeSort (fun x y z h1 h2 => ?_) (fun x y => ?_) N
    · unfold leP at h1 h2 ⊢
      simp only [decide_eq_true_eq] at h1 h2 ⊢
      omega
    · unfold leP
      simp only [Bool.or_eq_true, decide_eq_true_eq]
      omega
end
/-! the sorted list without repeats -/
def ltP (p q : Int × Int) : Bool := decide (p.1 < q.1 ∨ (p.1 = q.1 ∧ p.2 < q.2))
theorem ltP_iff {p q : Int × Int} : ltP p q = true ↔ (p.1 < q.1 ∨ (p.1 = q.1 ∧ p.2 < q.2)) := by unfold ltP; rw [decide_eq_true_eq]
theorem leP_iff {p q : Int × Int} : leP p q = true ↔ (p.1 < q.1 ∨ (p.1 = q.1 ∧ p.2 ≤ q.2)) := by unfold leP; rw [decide_eq_true_eq]
def insP (z : Int × Int) : List (Int × Int) → List (Int × Int)
  | [] => [z]
  | y :: r => if ltP z y then z :: y :: r else if z = y then y :: r else y :: insP z r
def srtP (zs : List (Int × Int)) : List (Int × Int) := zs.foldr insP []
theorem mem_insP {z y : Int × Int} : ∀ {l : List (Int × Int)}, y ∈ insP z l ↔ y = z ∨ y ∈ l
  | [] => by simp [insP]
  | u :: r => by
    unfold insP
    split
    · simp
    · split
      · rename_i e
        subst e
        simp
      · rw [List.mem_cons, mem_insP (l := r), List.mem_cons]
        constructor
        · rintro (h | h | h)
          · exact .inr (.inl h)
          · exact .inl h
          · exact .inr (.inr h)
        · rintro (h | h | h)
          · exact .inr (.inl h)
          · exact .inl h
          · exact .inr (.inr h)
theorem mem_srtP {y : Int × Int} : ∀ {zs : List (Int × Int)}, y ∈ srtP zs ↔ y ∈ zs
  | [] => Iff.rfl
  | z :: zs => by
    show y ∈ insP z (srtP zs) ↔ _
    rw [mem_insP, mem_srtP (zs := zs), List.mem_cons]
theorem ltP_trans {p q r : Int × Int} (h : ltP p q = true) (h' : ltP q r = true) : ltP p r = true := by rw [ltP_iff] at *; omega
theorem sorted_insP {z : Int × Int} : ∀ {l : List (Int × Int)}, l.Pairwise (fun p q => ltP p q = true) → (insP z l).Pairwise (fun p q => ltP p q = true)
  | [], _ => List.pairwise_singleton _ _
  | u :: r, h => by
    unfold insP
    rw [List.pairwise_cons] at h
    split
    · rename_i e
      refine List.pairwise_cons.mpr ⟨fun y hy => ?_, List.pairwise_cons.mpr h⟩
      rcases List.mem_cons.mp hy with f | f
      · rw [f]; exact e
      · exact ltP_trans e (h.1 y f)
    · split
      · exact List.pairwise_cons.mpr h
      · rename_i e f
        refine List.pairwise_cons.mpr ⟨fun y hy => ?_, sorted_insP h.2⟩
        rcases mem_insP.mp hy with g | g
        · rw [g]
          rw [ltP_iff] at *
          have : ¬ (z.1 = u.1 ∧ z.2 = u.2) := fun q => f (Prod.ext q.1 q.2)
          omega
        · exact h.1 y g
theorem sorted_srtP : ∀ zs : List (Int × Int), (srtP zs).Pairwise (fun p q => ltP p q = true)
  | [] => .nil
  | z :: zs => sorted_insP (sorted_srtP zs)
theorem srt_one : ∀ {xs ys : List (Int × Int)}, xs.Pairwise (fun p q => ltP p q = true) → ys.Pairwise (fun p q => ltP p q = true) → (∀ z, z ∈ xs ↔ z ∈ ys) → xs = ys
  | [], [], _, _, _ => rfl
  | [], y :: ys, _, _, h => nomatch (h y).mpr List.mem_cons_self
  | x :: xs, [], _, _, h => nomatch (h x).mp List.mem_cons_self
  | x :: xs, y :: ys, hx, hy, h => by
    rw [List.pairwise_cons] at hx hy
    have e : x = y := by
      rcases List.mem_cons.mp ((h x).mp List.mem_cons_self) with e | e
      · exact e
      · rcases List.mem_cons.mp ((h y).mpr List.mem_cons_self) with f | f
        · exact f.symm
        · have a := hy.1 x e
          have b := hx.1 y f
          rw [ltP_iff] at a b
          omega
    subst e
    have irr : ∀ z, ltP z z = true → False := fun z q => by rw [ltP_iff] at q; omega
    rw [srt_one hx.2 hy.2 fun z => ⟨fun q => ?_, fun q => ?_⟩]
    · rcases List.mem_cons.mp ((h z).mp (List.mem_cons_of_mem _ q)) with f | f
      · subst f; exact absurd (hx.1 z q) (irr z)
      · exact f
    · rcases List.mem_cons.mp ((h z).mpr (List.mem_cons_of_mem _ q)) with f | f
      · subst f; exact absurd (hy.1 z q) (irr z)
      · exact f
theorem srtP_len : ∀ zs : List (Int × Int), (srtP zs).length ≤ zs.length
  | [] => Nat.le_refl _
  | z :: zs => by
    have k : ∀ l : List (Int × Int), (insP z l).length ≤ l.length + 1 := by
      intro l
      induction l with
      | nil => exact Nat.le_refl _
      | cons u r ih =>
        unfold insP
        split
        · exact Nat.le_refl _
        · split
          · exact Nat.le_succ _
          · show (insP z r).length + 1 ≤ r.length + 1 + 1; omega
    have := srtP_len zs
    have := k (srtP zs)
    show (insP z (srtP zs)).length ≤ zs.length + 1
    omega
abbrev ipp (z : Int × Int) : D := .tup [.int z.1, .int z.2]
section
variable {X : Cx}
def rSrtSet (K : Frag) (P : Program) (w : World) : List V → Hp → VK → Prop := fun vs H Q => ∃ (a : Addr) (M : List (Addr × List Int)), vs = [V.ref a] ∧ H a = some (SetTO P w a M) ∧ (∀ z ∈ M, SqT K H z.1 (z.2.map V.int)) ∧ (∀ z ∈ M, ∃ x y, z.2 = [x, y]) ∧
  ∀ (N : List (Addr × List Int)) (p : Addr), N.Perm M → (N.map (·.2)).Nodup → N.Pairwise (fun x y => leP (pairOf x) (pairOf y) = true) → H p = none → Q (.ref p) (upd H p (.lst (N.map fun z => V.ref z.1)))
theorem cr_srtSet (hc : X.calm = true) (hu : X.A.units + 64 < cLine) : CallR X (.builtin "sorted") (rSrtSet X.K X.prog X.w) := by
  intro pins s σ H vs us Q I r h
  obtain ⟨a, M, rfl, ha, hk, h2, q⟩ := h
  have R0 : SetT0 X.prog X.w s.heap a M := (I.hok a _ ha).1
  obtain ⟨es, ep, tb, R⟩ := R0.full fun p hp => I.isT (hk p hp)
  rw [Vals.ref1 r]
  refine sorted_setP R (I.ok.hd hc) (by omega) h2 fun s' p out c ⟨k, g, o, hp, hg⟩ N hout pm pw => ?_
  have few := R.few
  have hlen : (N.map fun z => V.ref z.1).length ≤ sizeLine := by rw [List.length_map, pm.length_eq, sizeLine_eq]; omega
  have hv : Vals (N.map fun z => V.ref z.1) out.toList := by rw [hout]; exact vals_of_refs N
  have hn : H p = none := I.hok.fresh hp
  have e : s' = { s with heap := s'.heap, gens := s'.gens, drawn := s'.drawn, toks := s'.toks } := by
    obtain ⟨_, _, _, _, _⟩ := s'
    obtain ⟨_, _, _, _, _⟩ := s
    cases o
    rfl
  rw [e]
  have ob : ObjOk X.prog X.w (upd H p (.lst (N.map fun z => V.ref z.1))) s'.heap p (.lst (N.map fun z => V.ref z.1)) := ⟨hlen, out.toList, c, hv, hg⟩
  exact ⟨.ref p, _, I.call (ch := []) (Un.laid k hp hn) (I.hok.laid k hp ob) (by rw [g]; exact I.bare) (fun _ z => nomatch z), rfl, q N p pm ((pm.map (·.2)).nodup_iff.mpr R.nd) pw hn⟩
end
/-- pairs in a list: where they stand -/
theorem pairs_at {K : Frag} {H : Hp} : ∀ {vs : List V} {zs : List (Int × Int)}, Rps K H vs (zs.map ipp) → ∃ ks : List (Addr × List Int), (vs = ks.map fun z => V.ref z.1) ∧ (∀ z ∈ ks, SqT K H z.1 (z.2.map V.int)) ∧ ks.map (·.2) = zs.map (fun z => [z.1, z.2])
  | [], [], .nil => ⟨[], rfl, fun _ h => (nomatch h), rfl⟩
  | v :: vs, z :: zs, .cons h t => by
    obtain ⟨ks, k1, k2, k3⟩ := pairs_at t
    obtain ⟨a, ws, e, hs, hr⟩ := h.tup_of
    cases hr with
    | cons h1 hr =>
      cases hr with
      | cons h2 hr =>
        cases hr
        rw [h1.int_of, h2.int_of] at hs
        refine ⟨(a, [z.1, z.2]) :: ks, by rw [k1, e]; rfl, fun y hy => ?_, by rw [List.map_cons, k3]; rfl⟩
        rcases List.mem_cons.mp hy with f | f
        · rw [f]; exact hs
        · exact k2 y f
theorem pairs_rp {K : Frag} {H : Hp} : ∀ N : List (Addr × List Int), (∀ z ∈ N, SqT K H z.1 (z.2.map V.int) ∧ ∃ x y, z.2 = [x, y]) → Rps K H (N.map fun z => V.ref z.1) ((N.map pairOf).map ipp)
  | [], _ => .nil
  | z :: N, h => by
    obtain ⟨h1, x, y, e⟩ := h z List.mem_cons_self
    refine .cons ?_ (pairs_rp N fun u hu => h u (List.mem_cons_of_mem _ hu))
    show Rp K H (.ref z.1) (.tup [.int (z.2.getD 0 0), .int (z.2.getD 1 0)])
    rw [e] at h1 ⊢
    exact .tup h1 (.cons (.int _) (.cons (.int _) .nil))
section
variable {X : Cx} {ρ : Ro} {A : AH} {a : Expr} {x : D} {zs : List (Int × Int)} {p0 p2 pos pos2 : Pos} {lv : Nat}
theorem al_sortedSet (hr : Room lv X.A) (hc : X.calm = true) (hg : Gl X "sorted") (hg2 : Gl X "set") (hm : X.mg "sorted" = none) (hm2 : X.mg "set" = none) (h : AV X a ρ A x) (hl : IsL A x (zs.map ipp)) (h64 : zs.length < 64)
    (hs : starEach [a] X.env = [(false, eval a X.env)] := by rfl) : AL X (.Call (.Name "sorted" p0) [.Call (.Name "set" p2) [a] [] pos2] [] pos) ρ A ((srtP zs).map ipp) := fun k q σ H s Q qq =>
  tm_of (pe_callB (cr_srtSet hc hr.units) hg hm (by decide +kernel) (pa_cons (pe_callTy (cr_setOfT hc hr.units) hg2 hm2 (by decide +kernel) (pa_cons (pe_tm a) pa_nil hs) (he := hs) (hpl := rfl)) pa_nil rfl) (he := rfl) (hpl := rfl)) (h σ H s _ fun v H1 t1 r1 l1 => by
    obtain ⟨b, vs, rfl, b1, b2⟩ := hl.sq r1 l1
    obtain ⟨ks, rfl, k2, k3⟩ := pairs_at b2
    refine ⟨b, ks, rfl, b1, k2, by rw [← List.length_map (f := (·.2)), k3, List.length_map]; exact h64, fun c M hc0 m1 m2 => ?_⟩
    have tS : TS H1 (upd H1 c (SetTO X.prog X.w c M)) := TS.new hc0
    have two : ∀ z ∈ ks, ∃ x y, z.2 = [x, y] := fun z hz => by
      have : z.2 ∈ zs.map (fun z => [z.1, z.2]) := by rw [← k3]; exact List.mem_map.mpr ⟨z, hz, rfl⟩
      obtain ⟨u, _, e⟩ := List.mem_map.mp this
      exact ⟨u.1, u.2, e.symm⟩
    refine ⟨c, M, rfl, upd_same, fun z hz => tS.sq (k2 z (m1 z hz)), fun z hz => two z (m1 z hz), fun N p pm nd pw hp => ?_⟩
    have hN : ∀ z ∈ N, SqT X.K (upd H1 c (SetTO X.prog X.w c M)) z.1 (z.2.map V.int) ∧ ∃ x y, z.2 = [x, y] := fun z hz => ⟨tS.sq (k2 z (m1 z (pm.mem_iff.mp hz))), two z (m1 z (pm.mem_iff.mp hz))⟩
    have e : N.map pairOf = srtP zs := by
      refine srt_one ?_ (sorted_srtP zs) fun z => ?_
      · rw [List.pairwise_map]
        refine List.Pairwise.imp_of_mem (fun {x y} hx hy h => ?_) (List.Pairwise.and pw (List.pairwise_map.mp nd))
        obtain ⟨_, x1, x2, ex⟩ := hN x hx
        obtain ⟨_, y1, y2, ey⟩ := hN y hy
        have h1 := h.1
        have h2 := h.2
        unfold pairOf at h1 ⊢
        rw [leP_iff] at h1
        rw [ltP_iff]
        rw [ex, ey] at h1 h2 ⊢
        have h1 : x1 < y1 ∨ (x1 = y1 ∧ x2 ≤ y2) := h1
        show x1 < y1 ∨ (x1 = y1 ∧ x2 < y2)
        have : ¬ (x1 = y1 ∧ x2 = y2) := fun q => h2 (by rw [q.1, q.2])
        omega
      · rw [mem_srtP, List.mem_map]
        constructor
        · rintro ⟨u, hu, rfl⟩
          have : u.2 ∈ zs.map (fun z => [z.1, z.2]) := by rw [← k3]; exact List.mem_map.mpr ⟨u, m1 u (pm.mem_iff.mp hu), rfl⟩
          obtain ⟨y, hy, e⟩ := List.mem_map.mp this
          unfold pairOf
          rw [← e]
          exact hy
        · intro hz
          have : [z.1, z.2] ∈ ks.map (·.2) := by rw [k3]; exact List.mem_map.mpr ⟨z, hz, rfl⟩
          obtain ⟨u, hu, e⟩ := List.mem_map.mp this
          obtain ⟨y, hy, ey⟩ := List.mem_map.mp (m2 u hu)
          refine ⟨y, pm.mem_iff.mpr hy, ?_⟩
          unfold pairOf
          rw [show y.2 = u.2 from ey, show u.2 = [z.1, z.2] from e]
          rfl
    have nl := (l1.newAny (u := SetTO X.prog X.w c M) hc0).newL hp (pairs_rp N hN)
    rw [e] at nl
    have hA : A p = none := (l1.newAny (u := SetTO X.prog X.w c M) hc0).none hp
    exact qq _ _ _ _ (t1.trans (tS.trans nl.1)) (.ref p) nl.2 (q p hA))
theorem av_sortedSet (hr : Room lv X.A) (hc : X.calm = true) (hg : Gl X "sorted") (hg2 : Gl X "set") (hm : X.mg "sorted" = none) (hm2 : X.mg "set" = none) (h : AV X a ρ A x) (hl : IsL A x (zs.map ipp)) (h64 : zs.length < 64)
    (hs : starEach [a] X.env = [(false, eval a X.env)] := by rfl) : AV X (.Call (.Name "sorted" p0) [.Call (.Name "set" p2) [a] [] pos2] [] pos) ρ A (.fz ((srtP zs).map ipp)) := (al_sortedSet hr hc hg hg2 hm hm2 h hl h64 hs).av
end
section
variable {X : Cx} {ρ ρ' : Ro} {es : List Expr} {pos : Pos} {ds : List D}
/-- a, b = a list -/
theorem ag_fz {is : List Nat} {kk : Nat} (hc : X.calm = true) (h : AGs X es is ρ ds ρ') (hn : (assignEach es X.env).length = ds.length := by rfl) (hst : (assignEach es X.env).findIdx? (·.1) = none := by rfl) : AG X (.Tuple es kk pos) is ρ (.fz ds) ρ' := fun v σ H A s r Q q => by
  obtain ⟨p, o, vs, rfl, h1, h2⟩ := r.fz_of
  exact tmg_of (pg_unl hc (pgs_tm es) hn hst) ⟨p, vs, rfl, (show SqC X.K H p vs from .inl ⟨o, h1⟩).sq, h2.length, h vs σ H A s h2 Q q⟩
end
end C7
namespace C7
open PySem PySem.Spec PyProof.Rows L2
/-! ### dicts whose keys are tuples -/
section
variable {X : Cx} {pins : List (Addr × Obj)} {σ : L2.St} {H : Hp} {s : Shared}
mutual
theorem key_ok (I : Inv X pins σ H s) : ∀ {v : V} {d : D}, Rp X.K H v d → ∀ {k : NestedKey} {u : Value}, keyD d = some k → RelV v u → NestedIs s.heap k u
  | _, _, .int i, k, u, h, r => by
    have h : some (NestedKey.num i) = some k := h
    cases h
    obtain ⟨t, rfl⟩ := r
    exact .int i t
  | _, _, .str x, k, u, h, r => by
    have h : some (NestedKey.text x) = some k := h
    cases h
    obtain ⟨t, rfl⟩ := r
    exact .text x t
  | _, _, .tup (ds := ds) h1 h2, k, u, h, r => by
    obtain ⟨its, rv, ⟨o, ho, hc, n, hd⟩, _⟩ := I.tuple h1
    unfold keyD at h
    cases e : keysD ds with
    | none => rw [e] at h; cases h
    | some ks =>
      rw [e] at h
      cases h
      cases r
      exact .tup ho hc hd (by simpa using keys_ok I h2 e rv)
  | _, _, .non, _, _, h, _ => nomatch h
  | _, _, .bl _, _, _, h, _ => nomatch h
  | _, _, .ref _, _, _, h, _ => nomatch h
  | _, _, .ty _, _, _, h, _ => nomatch h
  | _, _, .cl _ _, _, _, h, _ => nomatch h
  | _, _, .fz _ _, _, _, h, _ => nomatch h
theorem keys_ok (I : Inv X pins σ H s) : ∀ {vs : List V} {ds : List D}, Rps X.K H vs ds → ∀ {ks : List NestedKey} {us : List Value}, keysD ds = some ks → Vals vs us → NestedAll s.heap ks us
  | _, _, .nil, ks, us, h, r => by
    have h : some [] = some ks := h
    cases h
    cases r
    exact .nil
  | _, _, .cons (d := d) (ds := ds) a b, ks, us, h, r => by
    unfold keysD at h
    cases e1 : keyD d with
    | none => rw [e1] at h; simp at h
    | some k =>
      cases e2 : keysD ds with
      | none => rw [e1, e2] at h; simp at h
      | some ls =>
        rw [e1, e2] at h
        cases h
        cases r with
        | cons r1 r2 => exact .cons (key_ok I a e1 r1) (keys_ok I b e2 r2)
end
theorem dkO_full (I : Inv X pins σ H s) {a : Addr} {xs : List (NestedKey × Addr × Value)} {kvs : List (NestedKey × D)} (h : H a = some (DkO X.prog X.w a xs)) (hp : Paired (EnD X.K H) xs kvs) : (a == sysModules) = false ∧ s.heap.DictOfH (nestedKind X.prog X.w) a xs := by
  obtain ⟨h0, o, es, ep, h1, h2, h3, h4, h5⟩ := (I.hok a _ h).1
  refine ⟨h0, o, es, ep, h1, h2, h3, h4, fun x hx => ?_, h5⟩
  have : ∀ {xs : List (NestedKey × Addr × Value)} {kvs : List (NestedKey × D)}, Paired (EnD X.K H) xs kvs → ∀ x ∈ xs, ∃ kd, Rp X.K H (.ref x.2.1) kd ∧ keyD kd = some x.1 ∧ x.1.depth ≤ 8 := by
    intro xs kvs hp
    induction hp with
    | nil => intro x hx; cases hx
    | cons a _ ih =>
      intro x hx
      rcases List.mem_cons.mp hx with e | e
      · rw [e]; exact a.1
      · exact ih x e
  obtain ⟨kd, r, e, hd⟩ := this hp x hx
  exact ⟨key_ok I r e rfl, hd⟩
end
def lkD (kvs : List (NestedKey × D)) (k : NestedKey) : Option D := (kvs.find? fun q => decide (q.1 = k)).map (·.2)
def putD (kvs : List (NestedKey × D)) (k : NestedKey) (d : D) : List (NestedKey × D) := if (lkD kvs k).isSome then kvs.map (fun q => if q.1 = k then (q.1, d) else q) else kvs ++ [(k, d)]
theorem lk_pair {K : Frag} {H : Hp} {k : NestedKey} : ∀ {xs : List (NestedKey × Addr × Value)} {kvs : List (NestedKey × D)}, Paired (EnD K H) xs kvs → (lkD kvs k = none ∧ atKey xs k = none) ∨ ∃ p d v, lkD kvs k = some d ∧ atKey xs k = some p ∧ RelV v p.2 ∧ Rp K H v d
  | _, _, .nil => .inl ⟨rfl, rfl⟩
  | x :: xs, q :: kvs, .cons h t => by
    obtain ⟨_, e, v, r1, r2⟩ := h
    by_cases g : x.1 = k
    · refine .inr ⟨x.2, q.2, v, ?_, ?_, r1, r2⟩
      · unfold lkD; rw [List.find?_cons_of_pos (by rw [← e]; exact decide_eq_true g)]; rfl
      · simp [atKey, g]
    · have g' : ¬ q.1 = k := by rw [← e]; exact g
      rcases lk_pair (k := k) t with ⟨a, b⟩ | ⟨p, d, v, a, b, c⟩
      · refine .inl ⟨?_, ?_⟩
        · unfold lkD at a ⊢; rw [List.find?_cons_of_neg (by simp [g'])]; exact a
        · simp only [atKey] at b ⊢; rw [List.find?_cons_of_neg (by simp [g])]; exact b
      · refine .inr ⟨p, d, v, ?_, ?_, c⟩
        · unfold lkD at a ⊢; rw [List.find?_cons_of_neg (by simp [g'])]; exact a
        · simp only [atKey] at b ⊢; rw [List.find?_cons_of_neg (by simp [g])]; exact b
theorem put_pair {K : Frag} {H : Hp} {k : NestedKey} {a : Addr} {u : Value} {v : V} {d kd : D} {xs : List (NestedKey × Addr × Value)} {kvs : List (NestedKey × D)} (h : Paired (EnD K H) xs kvs) (hk : Rp K H (.ref a) kd ∧ keyD kd = some k ∧ k.depth ≤ 8) (r1 : RelV v u) (r2 : Rp K H v d) : Paired (EnD K H) (storedH xs k a u) (putD kvs k d) := by
  have mp : ∀ {xs : List (NestedKey × Addr × Value)} {kvs : List (NestedKey × D)}, Paired (EnD K H) xs kvs → Paired (EnD K H) (xs.map (putAt k u)) (kvs.map fun q => if q.1 = k then (q.1, d) else q) := by
    intro xs kvs h
    induction h with
    | nil => exact .nil
    | @cons x q xs kvs a _ ih =>
      refine .cons ?_ ih
      obtain ⟨h1, e, w, s1, s2⟩ := a
      unfold putAt
      by_cases g : x.1 = k
      · show EnD K H _ (if q.1 = k then _ else _)
        rw [if_pos g, if_pos (by rw [← e]; exact g)]
        exact ⟨h1, e, v, r1, r2⟩
      · show EnD K H _ (if q.1 = k then _ else _)
        rw [if_neg g, if_neg (by rw [← e]; exact g)]
        exact ⟨h1, e, w, s1, s2⟩
  unfold storedH putD
  rcases lk_pair (k := k) h with ⟨e1, e2⟩ | ⟨p, d', v', e1, e2, _⟩
  · rw [e1, e2]
    have ap : ∀ {xs : List (NestedKey × Addr × Value)} {kvs : List (NestedKey × D)}, Paired (EnD K H) xs kvs → Paired (EnD K H) (xs ++ [(k, a, u)]) (kvs ++ [(k, d)]) := by
      intro xs kvs h
      induction h with
      | nil => exact .cons ⟨⟨kd, hk⟩, rfl, v, r1, r2⟩ .nil
      | cons a _ ih => exact .cons a ih
    exact ap h
  · rw [e1, e2]
    exact mp h
theorem putD_len (kvs : List (NestedKey × D)) (k : NestedKey) (d : D) : (putD kvs k d).length ≤ kvs.length + 1 := by
  unfold putD
  split
  · rw [List.length_map]; omega
  · rw [List.length_append]; exact Nat.le_refl _
section
variable {X : Cx}
/-- a dict at a, a key at b, by values -/
def DkAt (X : Cx) (H : Hp) (x y : V) (k : NestedKey) (kvs : List (NestedKey × D)) : Prop := ∃ a b xs kd, x = V.ref a ∧ y = V.ref b ∧ H a = some (DkO X.prog X.w a xs) ∧ Paired (EnD X.K H) xs kvs ∧ Rp X.K H (.ref b) kd ∧ keyD kd = some k ∧ k.depth ≤ 8
theorem dk_room (hu : X.A.units + 64 < cLine) : (nestedKind X.prog X.w).room X.A.in1 := by show X.A.units + 1 + 8 < cLine; omega
theorem dk_is {pins : List (Addr × Obj)} {σ : L2.St} {H : Hp} {s : Shared} {b : Addr} {kd : D} {k : NestedKey} (I : Inv X pins σ H s) (h3 : Rp X.K H (.ref b) kd) (h4 : keyD kd = some k) (h5 : k.depth ≤ 8) : (nestedKind X.prog X.w).is s.heap k b := ⟨key_ok I h3 h4 rfl, h5⟩
theorem ix_dk (hu : X.A.units + 64 < cLine) : IxR X (fun x y H Q => ∃ k kvs d, DkAt X H x y k kvs ∧ lkD kvs k = some d ∧ ∀ v, Rp X.K H v d → Q v H) := by
  intro value slice pins s σ H x y v u Q I rx ry h hs
  obtain ⟨k, kvs, d, ⟨a, b, xs, kd, rfl, rfl, h1, h2, h3, h4, h5⟩, hd, q⟩ := h
  obtain rfl : v = Value.ref a := rx
  obtain rfl : u = Value.ref b := ry
  obtain ⟨h0, hx⟩ := dkO_full I h1 h2
  rcases lk_pair (k := k) h2 with ⟨e, _⟩ | ⟨p, d', v', e, e2, r1, r2⟩
  · rw [hd] at e; cases e
  · rw [hd] at e
    cases e
    exact tail_any hx.typeIs slot_dict_getitem.lookup (wpAny_getItem_heap (dk_room hu) (dk_is I h3 h4 h5) hx e2 ⟨v', H, I.tok _, r1, q v' r2⟩) hs
theorem op_inDk (hu : X.A.units + 64 < cLine) : OpR X (compareOp .In) (fun y x H Q => ∃ k kvs, DkAt X H x y k kvs ∧ Q (.bl (lkD kvs k).isSome) H) := by
  intro pins s σ H y x u v Q I ry rx h
  obtain ⟨k, kvs, ⟨a, b, xs, kd, rfl, rfl, h1, h2, h3, h4, h5⟩, q⟩ := h
  obtain rfl : v = Value.ref a := rx
  obtain rfl : u = Value.ref b := ry
  obtain ⟨h0, hx⟩ := dkO_full I h1 h2
  refine wpAny_in_heap (dk_room hu) (dk_is I h3 h4 h5) h0 hx ⟨.bl _, H, I.tok _, rfl, ?_⟩
  rcases lk_pair (k := k) h2 with ⟨e, e2⟩ | ⟨p, d', v', e, e2, r1, r2⟩ <;> (rw [e] at q; rw [e2]; exact q)
theorem op_notInDk (hu : X.A.units + 64 < cLine) : OpR X (compareOp .NotIn) (fun y x H Q => ∃ k kvs, DkAt X H x y k kvs ∧ Q (.bl (!(lkD kvs k).isSome)) H) := by
  intro pins s σ H y x u v Q I ry rx h
  obtain ⟨k, kvs, ⟨a, b, xs, kd, rfl, rfl, h1, h2, h3, h4, h5⟩, q⟩ := h
  obtain rfl : v = Value.ref a := rx
  obtain rfl : u = Value.ref b := ry
  obtain ⟨h0, hx⟩ := dkO_full I h1 h2
  refine wpAny_notIn_heap (dk_room hu) (dk_is I h3 h4 h5) h0 hx ⟨.bl _, H, I.tok _, rfl, ?_⟩
  rcases lk_pair (k := k) h2 with ⟨e, e2⟩ | ⟨p, d', v', e, e2, r1, r2⟩ <;> (rw [e] at q; rw [e2]; exact q)
theorem dk_put {pins : List (Addr × Obj)} {σ : L2.St} {H : Hp} {s : Shared} {a : Addr} {xs ys : List (NestedKey × Addr × Value)} {h' : Heap} {t' : Nat} (I : Inv X pins σ H s) (h1 : H a = some (DkO X.prog X.w a xs)) (h0 : (a == sysModules) = false) (hs : Heap.SameBut a s.heap h') (dd : h'.DictOfH (nestedKind X.prog X.w) a ys) :
    Inv X pins σ (upd H a (DkO X.prog X.w a ys)) { s with heap := h', toks := t' } := by
  obtain ⟨o, es, ep, g1, g2, g3, g4, _, g5⟩ := dd
  refine d_write I (by rw [h1]; exact True.intro) hs ⟨o, g1⟩ ⟨⟨h0, o, es, ep, g1, g2, g3, g4, g5⟩, ⟨o, g1⟩, fun x1 x2 p k => ?_⟩
  obtain ⟨p0, o', es', ep', f1, f2⟩ := p
  exact ⟨p0, o', es', ep', k o' f1, f2⟩
theorem set_dk (hu : X.A.units + 64 < cLine) : PSet X (fun x y v H Q => ∃ a b xs kd k, x = V.ref a ∧ y = V.ref b ∧ H a = some (DkO X.prog X.w a xs) ∧ (∃ kvs, Paired (EnD X.K H) xs kvs ∧ xs.length ≤ sizeLine) ∧ Rp X.K H (.ref b) kd ∧ keyD kd = some k ∧ k.depth ≤ 8 ∧ ∀ u, RelV v u → Q (upd H a (DkO X.prog X.w a (storedH xs k b u)))) := by
  intro pins s σ H o i v ov iv u Q I ro ri rv h
  obtain ⟨a, b, xs, kd, k, rfl, rfl, h1, ⟨kvs, h2, hz⟩, h3, h4, h5, q⟩ := h
  obtain rfl : ov = Value.ref a := ro
  obtain rfl : iv = Value.ref b := ri
  obtain ⟨h0, hx⟩ := dkO_full I h1 h2
  exact wpAny_setItem_heap (hsz := hz) (dk_room hu) (dk_is I h3 h4 h5) hx fun h' dd hs => ⟨_, dk_put I h1 h0 hs dd, q u rv⟩
theorem dk_empty0 {P : Program} {w : World} {H : Hp} {h : Heap} (hb : sysModules < h.objs.size) : ObjOk P w H (h.push { cls := .type "dict", data := .dict #[] }) h.objs.size (DkO P w h.objs.size []) := by
  have g := Heap.get?_push_size h (o := { cls := .type "dict", data := .dict #[] }) rfl
  refine ⟨⟨by simp; exact fun e => absurd e (Nat.ne_of_gt hb), _, #[], 0, g, ⟨rfl, rfl, rfl⟩, rfl, rfl, List.nodup_nil⟩, ⟨_, g⟩, fun x1 x2 p k => ?_⟩
  obtain ⟨p0, o', es', ep', f1, f2⟩ := p
  exact ⟨p0, o', es', ep', k o' f1, f2⟩
theorem pe_dk0 {pos : Pos} : PE X (.Dict [] [] pos) (fun _ H Q => ∀ p, H p = none → Q (.ref p) (upd H p (DkO X.prog X.w p []))) := ⟨fun pins s σ H Q I h =>
  wpAny_Dict_empty ⟨.ref s.heap.objs.size, _, I.laid (a := s.heap.objs.size) (o := DkO X.prog X.w s.heap.objs.size []) (t' := s.toks) (fun _ _ q => Heap.get?_push_of_some _ q) (Nat.le_refl _) (dk_empty0 I.big), rfl, h _ (I.hok.fresh (Nat.le_refl _))⟩⟩
end
/-! ### the rules of the layer -/
theorem Rel.dD {K : Frag} {A : AH} {H : Hp} {P : Program} {w : World} {p : Addr} {kvs : List (NestedKey × D)} (r : Rel K A H) (h : A p = some (.dD P w p kvs)) : ∃ xs, H p = some (DkO P w p xs) ∧ Paired (EnD K H) xs kvs := by
  obtain ⟨u, e1, xs, e2, e3⟩ := r p _ h
  rw [e2] at e1
  exact ⟨xs, e1, e3⟩
section
variable {X : Cx} {W : WX} {ρ : Ro} {A : AH} {e a b o i : Expr} {pos : Pos} {d kd : D} {k : AK} {E : AEnds} {kk : NestedKey} {kvs : List (NestedKey × D)} {lv : Nat} {p : Addr}
theorem ref_tup {K : Frag} {H : Hp} {v : V} {ds : List D} (h : Rp K H v (.tup ds)) : ∃ a, v = .ref a := let ⟨a, _, e, _⟩ := h.tup_of; ⟨a, e⟩
theorem ae_dict0 (q : ∀ p, A p = none → k (.ref p) (aupd A p (.dD X.prog X.w p []))) : AE X (.Dict [] [] pos) ρ A k := fun σ H s Q qq =>
  tm_of pe_dk0 (fun p hp => qq _ _ _ _ (TS.new hp) (.ref p) (s.hp.new (o := .dD X.prog X.w p []) hp ⟨[], rfl, .nil⟩) (q p (s.hp.none hp)))
variable {ds : List D}
theorem dk_at {H : Hp} {v u : V} (l : Rel X.K A H) (hl : A p = some (.dD X.prog X.w p kvs)) (r1 : Rp X.K H v (.ref p)) (r2 : Rp X.K H u (.tup ds)) (hk : keyD (.tup ds) = some kk) (hd : kk.depth ≤ 8) : DkAt X H v u kk kvs := by
  obtain ⟨xs, e1, e2⟩ := l.dD hl
  obtain ⟨c, rfl⟩ := ref_tup r2
  rw [r1.ref_of]
  exact ⟨p, c, xs, _, rfl, rfl, e1, e2, r2, hk, hd⟩
theorem av_ixDk (hr : Room lv X.A) (ha : AV X a ρ A (.ref p)) (hb : AV X b ρ A (.tup ds)) (hl : A p = some (.dD X.prog X.w p kvs)) (hk : keyD (.tup ds) = some kk) (hd : kk.depth ≤ 8) (h : lkD kvs kk = some d) (hs : PlainIx b := by intro _ _; rfl) : AV X (.Subscript a b pos) ρ A d := fun σ H s Q q =>
  tm_of (pe_ix (ix_dk hr.units) (pe_tm a) (pe_tm b) hs) (ha σ H s _ fun v H1 t1 r1 l1 => hb σ H1 (s.mono t1 l1) _ fun u H2 t2 r2 l2 =>
    ⟨kk, kvs, d, dk_at l2 hl (r1.mono t2) r2 hk hd, h, fun w rw' => q w H2 (t1.trans t2) rw' l2⟩)
theorem at_notInDk (hr : Room lv X.A) (hb : AV X b ρ A (.tup ds)) (ha : AV X a ρ A (.ref p)) (hl : A p = some (.dD X.prog X.w p kvs)) (hk : keyD (.tup ds) = some kk) (hd : kk.depth ≤ 8) (hm : behindInMarks .NotIn a = false := by rfl) : AT X (.Compare b [.NotIn] [a] pos) ρ A (!(lkD kvs kk).isSome) :=
  at_cmp (op_notInDk hr.units) hm hb ha fun u v H r2 r1 l Q q => ⟨kk, kvs, dk_at l hl r1 r2 hk hd, q H (TS.refl H) l⟩
theorem at_inDk (hr : Room lv X.A) (hb : AV X b ρ A (.tup ds)) (ha : AV X a ρ A (.ref p)) (hl : A p = some (.dD X.prog X.w p kvs)) (hk : keyD (.tup ds) = some kk) (hd : kk.depth ≤ 8) (hm : behindInMarks .In a = false := by rfl) : AT X (.Compare b [.In] [a] pos) ρ A (lkD kvs kk).isSome :=
  at_cmp (op_inDk hr.units) hm hb ha fun u v H r2 r1 l Q q => ⟨kk, kvs, dk_at l hl r1 r2 hk hd, q H (TS.refl H) l⟩
theorem a1_setDk {tpos : Pos} (hr : Room lv X.A) (h : AV X e ρ A d) (ho : AV X o ρ A (.ref p)) (hi : AV X i ρ A (.tup ds)) (hl : A p = some (.dD X.prog X.w p kvs)) (hk : keyD (.tup ds) = some kk) (hd : kk.depth ≤ 8) (hn : kvs.length ≤ sizeLine) (q : E.nx ρ (aupd A p (.dD X.prog X.w p (putD kvs kk d))))
    (ha : ∀ v, assign (.Subscript o i tpos) X.env v = (do
      let ov ← holding [v] (eval o X.env)
      let iv ← holding [v, ov] (eval i X.env)
      standAt tpos
      holding [v, ov, iv] (setItem ov iv v)
      release [v, ov, iv] []) := by intro _; rfl) (hs : swapsWithSole [.Subscript o i tpos] e pos.line X.env = pure false := by rfl) (hw : swappedStores [.Subscript o i tpos] e X.env = pure none := by rfl)
    (h1 : (assignEach [.Subscript o i tpos] X.env).map (·.2) = [assign (.Subscript o i tpos) X.env] := by rfl) : A1 X W (.Assign [.Subscript o i tpos] e pos) ρ A E := fun σ H s D qq =>
  tm1_of (ps_asg (pe_tm e) (pg_sub (pe_tm o) (pe_tm i) (set_dk hr.units) ha) hs hw h1) (h σ H s _ fun v H1 t1 r1 l1 => ho σ H1 (s.mono t1 l1) _ fun w H2 t2 r2 l2 => hi σ H2 ((s.mono t1 l1).mono t2 l2) _ fun z H3 t3 r3 l3 => by
    have tt := (t1.trans t2).trans t3
    obtain ⟨xs, e1, e2⟩ := l3.dD hl
    obtain ⟨c, rfl⟩ := ref_tup r3
    rw [r2.ref_of]
    have hz : xs.length ≤ sizeLine := by rw [Paired.length e2]; exact hn
    refine ⟨p, c, xs, _, kk, rfl, rfl, e1, ⟨kvs, e2, hz⟩, r3, hk, hd, fun u ru => ?_⟩
    have t4 : TS H3 (upd H3 p (DkO X.prog X.w p (storedH xs kk c u))) := TS.put e1 (fun _ z => nomatch z) (fun _ _ z => nomatch z)
    have l4 : Rel X.K (aupd A p (.dD X.prog X.w p (putD kvs kk d))) (upd H3 p (DkO X.prog X.w p (storedH xs kk c u))) := l3.put e1 (fun _ z => nomatch z) (fun _ _ z => nomatch z) ⟨_, rfl, Paired.mapP (put_pair e2 ⟨r3, hk, hd⟩ ru ((r1.mono t2).mono t3)) fun _ _ ⟨⟨kd, z1, z2⟩, z3, v, z4, z5⟩ => ⟨⟨kd, z1.mono t4, z2⟩, z3, v, z4, z5.mono t4⟩⟩
    exact qq.nx ρ _ σ _ (tt.trans t4) (s.mono (tt.trans t4) l4) q)
end
/-! ### a pair in a list of pairs -/
section
variable {X : Cx}
theorem op_inP (hu : X.A.units + 64 < cLine) : OpR X (compareOp .In) (fun x y H Q => ∃ t p ks, ∃ z : Int × Int, x = V.ref t ∧ y = V.ref p ∧ SqT X.K H t [.int z.1, .int z.2] ∧ SqL X.K H p (List.map (fun q : Addr × List Int => V.ref q.1) ks) ∧ (∀ q ∈ ks, SqT X.K H q.1 (q.2.map V.int)) ∧ Q (.bl (decide ([z.1, z.2] ∈ ks.map (·.2)))) H) := by
  intro pins s σ H x y v u Q I rx ry h
  obtain ⟨t, p, ks, z, rfl, rfl, h1, h2, h3, q⟩ := h
  obtain rfl : v = Value.ref t := rx
  obtain rfl : u = Value.ref p := ry
  obtain ⟨its, r, pl, hz⟩ := I.list h2
  have er : its = ks.map fun q => Value.ref q.1 := refs_of_vals r
  have rd : ∀ {c : Addr} {ns : List Int}, SqT X.K H c (ns.map V.int) → ∃ as, Reads s.heap (Value.ref c) (.tuple (ns.map PyData.int)) as := fun {c ns} hc => by
    obtain ⟨o, vs, n, ho, hcl, hd, hi⟩ := I.isT hc
    have hi' := ints_of_items hi
    have : ∀ {us : List Value} {ms : List Int}, IntsAre us ms → ReadsAll s.heap us (ms.map PyData.int) [] := by
      intro us ms h
      induction h with
      | nil => exact .nil
      | cons p t _ ih => exact .cons (as := []) (.int _ _) ih
    exact ⟨[], .tuple ho hcl hd (this hi')⟩
  have lay : ∀ ns : List Int, (PyData.tuple (ns.map PyData.int)).canLay0 = true := fun ns => by
    show PyData.canLayAll0 (ns.map PyData.int) = true
    induction ns with
    | nil => rfl
    | cons n ns ih => rw [List.map_cons, PyData.canLayAll0, ih]; rfl
  have dep : ∀ ns : List Int, (PyData.tuple (ns.map PyData.int)).depth ≤ 1 := fun ns => by
    show PyData.depthAll (ns.map PyData.int) + 1 ≤ 1
    have : PyData.depthAll (ns.map PyData.int) = 0 := by
      induction ns with
      | nil => rfl
      | cons n ns ih => rw [List.map_cons, PyData.depthAll, ih]; rfl
    omega
  have eqv : ∀ ns ms : List Int, PyData.eqv (.tuple (ns.map PyData.int)) (.tuple (ms.map PyData.int)) = decide (ns = ms) := fun ns ms => by
    show PyData.eqvAll (ns.map PyData.int) (ms.map PyData.int) = _
    induction ns generalizing ms with
    | nil => cases ms with | nil => rfl | cons m ms => rfl
    | cons n ns ih =>
      cases ms with
      | nil => rfl
      | cons m ms =>
        rw [List.map_cons, List.map_cons, PyData.eqvAll, ih]
        show ((n == m) && decide (ns = ms)) = _
        rw [Bool.eq_iff_iff]
        simp
  have fi : ∀ q ∈ ks, TS.intsOf s.heap (Value.ref q.1) = q.2 := fun q hq => (tupInts_of (P := X.prog) (w := X.w) (I.isT (h3 q hq))).ints
  have h1' : SqT X.K H t (([z.1, z.2] : List Int).map V.int) := h1
  refine SeqAt.in_listAt (fun y => decide (TS.intsOf s.heap y = [z.1, z.2])) pl.isList (fun y hy => ?_) ⟨.bl _, H, I, rfl, ?_⟩
  · have hy : y ∈ its := by simpa using hy
    rw [er] at hy
    obtain ⟨q, hq, rfl⟩ := List.mem_map.mp hy
    obtain ⟨as, ra⟩ := rd (h3 q hq)
    obtain ⟨bs, rb⟩ := rd h1'
    have := PySem.SeqAt.eqAt_reads _ _ X.A.in1 s _ _ as bs ra rb (lay _) (lay _) (by have := dep q.2; have := dep [z.1, z.2]; show X.A.units + 1 + _ < cLine; omega)
    rw [eqv] at this
    show SeqAt.EqAt X.A.in1 s _ _ (decide (TS.intsOf s.heap (Value.ref q.1) = [z.1, z.2]))
    rw [fi q hq]
    exact this
  · have : (its.toArray.any fun y => decide (TS.intsOf s.heap y = [z.1, z.2])) = decide ([z.1, z.2] ∈ ks.map (·.2)) := by
      rw [show its.toArray.any (fun y => decide (TS.intsOf s.heap y = [z.1, z.2])) = its.any (fun y => decide (TS.intsOf s.heap y = [z.1, z.2])) by simp, er, List.any_map, Bool.eq_iff_iff]
      simp only [List.any_eq_true, decide_eq_true_eq, List.mem_map, Function.comp]
      constructor
      · rintro ⟨q, hq, e⟩
        rw [fi q hq] at e
        exact ⟨q, hq, e⟩
      · rintro ⟨q, hq, e⟩
        exact ⟨q, hq, by rw [fi q hq]; exact e⟩
    rw [this]
    exact q
variable {ρ : Ro} {A : AH} {a b : Expr} {pos : Pos} {x : D} {z : Int × Int} {zs : List (Int × Int)} {lv : Nat}
theorem at_inP (hr : Room lv X.A) (ha : AV X a ρ A (ipp z)) (hb : AV X b ρ A x) (hl : IsL A x (zs.map ipp)) (hm : behindInMarks .In b = false := by rfl) : AT X (.Compare a [.In] [b] pos) ρ A (decide (z ∈ zs)) :=
  at_cmp (op_inP hr.units) hm ha hb fun v u H r1 r2 l Q q => by
    obtain ⟨t, ws, rfl, t1, t2⟩ := r1.tup_of
    cases t2 with
    | cons u1 t2 =>
      cases t2 with
      | cons u2 t2 =>
        cases t2
        rw [u1.int_of, u2.int_of] at t1
        obtain ⟨c, vs, rfl, c1, c2⟩ := hl.sq r2 l
        obtain ⟨ks, rfl, k2, k3⟩ := pairs_at c2
        refine ⟨t, c, ks, z, rfl, rfl, t1, c1, k2, ?_⟩
        have e : decide ([z.1, z.2] ∈ ks.map (·.2)) = decide (z ∈ zs) := by
          rw [k3, decide_eq_decide, List.mem_map]
          constructor
          · rintro ⟨y, hy, e⟩
            have e1 : y.1 = z.1 := by injection e
            have e2 : y.2 = z.2 := by injection e with _ e; injection e
            rw [← (show y = z from Prod.ext e1 e2)]
            exact hy
          · intro h; exact ⟨z, h, rfl⟩
        rw [e]
        exact q H (TS.refl H) l
end
end C7
namespace C7
open PySem PySem.Spec PyProof.Rows L2
/-! ### min of a list of pairs -/
def minP (x : Int × Int) (xs : List (Int × Int)) : Int × Int := xs.foldl (fun b y => if ltP y b then y else b) x
theorem minP_ok : ∀ (xs : List (Int × Int)) (x : Int × Int), minP x xs ∈ x :: xs ∧ ∀ y ∈ x :: xs, ltP y (minP x xs) = false
  | [], x => ⟨List.mem_cons_self, fun y hy => by
    rw [List.mem_singleton.mp hy]
    cases e : ltP x (minP x []) with
    | false => rfl
    | true => have : ltP x x = true := e; rw [ltP_iff] at this; omega⟩
  | z :: r, x => by
    obtain ⟨h1, h2⟩ := minP_ok r (if ltP z x then z else x)
    have e : minP x (z :: r) = minP (if ltP z x then z else x) r := rfl
    rw [e]
    have le : ∀ a b c : Int × Int, ltP a b = false → ltP b c = false → ltP a c = false := fun a b c p q => by
      cases g : ltP a c with
      | false => rfl
      | true =>
        have p : ¬ ltP a b = true := by rw [p]; decide
        have q : ¬ ltP b c = true := by rw [q]; decide
        rw [ltP_iff] at p q g
        omega
    have h0 := h2 _ List.mem_cons_self
    refine ⟨?_, fun y hy => ?_⟩
    · rcases List.mem_cons.mp h1 with g | g
      · rw [g]; split
        · simp
        · simp
      · exact List.mem_cons_of_mem _ (List.mem_cons_of_mem _ g)
    · rcases List.mem_cons.mp hy with g | g
      · rw [g]
        refine le _ _ _ ?_ h0
        split
        · rename_i q
          cases p : ltP x z with
          | false => rfl
          | true => rw [ltP_iff] at p q; omega
        · cases p : ltP x x with
          | false => rfl
          | true => rw [ltP_iff] at p; omega
      · rcases List.mem_cons.mp g with g | g
        · rw [g]
          refine le _ _ _ ?_ h0
          split
          · cases p : ltP z z with
            | false => rfl
            | true => rw [ltP_iff] at p; omega
          · rename_i q
            exact Bool.eq_false_iff.mpr q
        · exact h2 y (List.mem_cons_of_mem _ g)
abbrev dI (z : Int × Int) : PyData := .tuple [.int z.1, .int z.2]
theorem minD_pair : ∀ (xs : List (Int × Int)) (x : Int × Int), PySem.W.minD (dI x) (xs.map dI) = dI (minP x xs)
  | [], x => rfl
  | z :: r, x => by
    have ih := minD_pair r (if ltP z x then z else x)
    have e : minP x (z :: r) = minP (if ltP z x then z else x) r := rfl
    rw [e, ← ih]
    unfold PySem.W.minD
    rw [List.map_cons, List.foldl_cons]
    congr 1
    rw [PySem.W.dataLt_ii]
    unfold ltP
    split <;> rename_i h <;> simp_all
section
variable {X : Cx}
theorem cr_minP (hc : X.calm = true) (hu : X.A.units + 64 < cLine) : CallR X (.builtin "min") (fun vs H Q => ∃ (a : Addr) (ks : List (Addr × List Int)) (x : Int × Int) (xs : List (Int × Int)), vs = [V.ref a] ∧ SqL X.K H a (ks.map fun z => V.ref z.1) ∧ (∀ z ∈ ks, SqT X.K H z.1 (z.2.map V.int)) ∧ ks.map (·.2) = (x :: xs).map (fun z => [z.1, z.2]) ∧
    ∀ t, SqT X.K H t [.int (minP x xs).1, .int (minP x xs).2] → Q (.ref t) H) := by
  intro pins s σ H vs us Q I r h
  obtain ⟨a, ks, x, xs, rfl, h1, h2, h3, q⟩ := h
  rw [Vals.ref1 r]
  obtain ⟨its, rv, pl, hz⟩ := I.list h1
  have er : its = ks.map fun z => Value.ref z.1 := refs_of_vals rv
  have rd : ∀ (ls : List (Addr × List Int)) (ys : List (Int × Int)), (∀ z ∈ ls, z ∈ ks) → ls.map (·.2) = ys.map (fun z => [z.1, z.2]) → ReadsAll s.heap (ls.map fun z => Value.ref z.1) (ys.map dI) [] := by
    intro ls
    induction ls with
    | nil => intro ys _ e; cases ys with | nil => exact .nil | cons y ys => cases e
    | cons z ls ih =>
      intro ys hm e
      cases ys with
      | nil => cases e
      | cons y ys =>
        rw [List.map_cons, List.map_cons] at e
        injection e with e1 e2
        obtain ⟨o, vs, n, ho, hcl, hd, hi⟩ := I.isT (h2 z (hm z List.mem_cons_self))
        have hi' := ints_of_items hi
        rw [show z.2 = [y.1, y.2] from e1] at hi'
        refine .cons (as := []) (.tuple ho hcl hd ?_) (ih ys (fun u hu => hm u (List.mem_cons_of_mem _ hu)) e2)
        generalize vs.toList = us at hi'
        cases hi' with
        | cons p t hi2 =>
          cases hi2 with
          | cons p2 t2 hi3 =>
            cases hi3
            exact .cons (as := []) (.int _ _) (.cons (as := []) (.int _ _) .nil)
  have ra : ReadsAll s.heap its.toArray.toList (dI x :: xs.map dI) [] := by
    rw [List.toList_toArray, er]
    exact rd ks (x :: xs) (fun _ h => h) h3
  refine PySem.W.min_list_data (I.ok.hd hc) pl.isList ra ⟨fun d hd e he => ?_, fun d hd => ?_⟩ ?_ fun i v h' tk bs hi hr hk => ?_
  · rw [← List.map_cons (f := dI)] at hd he
    obtain ⟨y, _, rfl⟩ := List.mem_map.mp hd
    obtain ⟨z, _, rfl⟩ := List.mem_map.mp he
    rfl
  · rw [← List.map_cons (f := dI)] at hd
    obtain ⟨y, _, rfl⟩ := List.mem_map.mp hd
    exact fun z => nomatch z
  · have : PyData.depthAll (dI x :: xs.map dI) ≤ 1 := by
      rw [← List.map_cons (f := dI)]
      generalize x :: xs = ys
      induction ys with
      | nil => exact Nat.zero_le _
      | cons y ys ih => rw [List.map_cons, PyData.depthAll]; refine Nat.max_le.mpr ⟨?_, ih⟩; simp [PyData.depth, PyData.depthAll]
    omega
  · rw [minD_pair] at hr
    have hv : its[i]? = some v := by simpa using hi
    rw [er, List.getElem?_map] at hv
    cases hki : ks[i]? with
    | none => rw [hki] at hv; cases hv
    | some z =>
      rw [hki] at hv
      cases hv
      have hzk : z ∈ ks := List.mem_of_getElem? hki
      have J : Inv X pins σ H { s with heap := h', toks := tk } := I.kept hk
      have f1 : TS.intsOf h' (Value.ref z.1) = z.2 := (tupInts_of (P := X.prog) (w := X.w) (J.isT (h2 z hzk))).ints
      have f2 : TS.intsOf h' (Value.ref z.1) = [(minP x xs).1, (minP x xs).2] := by
        refine TS.TupInts.ints ?_
        cases hr with
        | @tuple _ _ vs _ _ _ ho hcl hd hra =>
          refine ⟨_, _, rfl, ⟨_, ho, hcl, _, hd⟩, ?_⟩
          generalize vs.toList = us at hra
          cases hra with
          | cons r1 hra =>
            cases hra with
            | cons r2 hra =>
              cases hra
              cases r1
              cases r2
              exact .cons _ _ (.cons _ _ .nil)
      have e : z.2 = [(minP x xs).1, (minP x xs).2] := f1.symm.trans f2
      have hsq := h2 z hzk
      rw [e] at hsq
      exact ⟨.ref z.1, H, J, rfl, q z.1 hsq⟩
variable {ρ : Ro} {A : AH} {a : Expr} {pos p0 : Pos} {d : D} {x : Int × Int} {xs : List (Int × Int)} {lv : Nat}
theorem av_minP (hr : Room lv X.A) (hc : X.calm = true) (hg : Gl X "min") (hm : X.mg "min" = none) (h : AV X a ρ A d) (hl : IsL A d ((x :: xs).map ipp)) (hs : starEach [a] X.env = [(false, eval a X.env)] := by rfl) : AV X (.Call (.Name "min" p0) [a] [] pos) ρ A (ipp (minP x xs)) :=
  AE.av (ae_callB (cr_minP hc hr.units) hg hm (by decide +kernel) (aes_cons (h.ae (aes_nil (fun vs H r l Q q => by
    obtain ⟨v, rfl, r1⟩ := rps1 r
    obtain ⟨p, ws, rfl, h1, h2⟩ := hl.sq r1 l
    obtain ⟨ks, rfl, k2, k3⟩ := pairs_at h2
    exact ⟨p, ks, x, xs, rfl, h1, k2, k3, fun t ht => q _ H _ A (TS.refl H) (.tup ht (.cons (.int _) (.cons (.int _) .nil))) l ⟨rfl, Ext.refl _⟩⟩))) hs) (he := hs) (hpl := rfl))
end
end C7
namespace C7
open PySem PySem.Spec PyProof.Rows L2
/-! ### own classes: making, methods, fields -/
section
variable {X : Cx} {CX : CXT} {lv : Nat} {f C : Addr} {fd : FuncData} {ps : List Str} {sp : Sp}
theorem run_mkX {pins : List (Addr × Obj)} {σ : L2.St} {H : Hp} {s : Shared} {Q : VK} {E : XK} {us : List Value} {vs : List V} (M : Mk X.K C f) (F : FnOk X.prog X.w X.K X.mg X.base CX lv f fd ps sp) (hr : Room (lv + 1) X.A) (hb : Binds X.K fd ps [])
    (hx : PassesAt CX X σ E) (I : Inv X pins σ H s) (r : Vals vs us) (h : ∀ x dx, H x = none → H dx = none → dx ≠ x → sp (.ref x :: vs) (upd (upd H dx (.own x)) x (.ins C dx [])) (fun v H2 => v = .non ∧ Q (.ref x) H2) E) :
    wpAny (model X.prog X.w) X.A (call (.ref C) us) (EP X pins σ Q) X.xe s := by
  have J := Inv.made (C := C) I
  have hsp := h (s.heap.objs.size + 1) s.heap.objs.size (I.hok.fresh (Nat.le_succ _)) (I.hok.fresh (Nat.le_refl _)) (Nat.ne_of_lt (Nat.lt_succ_self _))
  have rr : Vals (V.ref (s.heap.objs.size + 1) :: vs) (Value.ref (s.heap.objs.size + 1) :: us) := .cons rfl r
  have ln : (Value.ref (s.heap.objs.size + 1) :: us).length = ps.length := rr.length.symm.trans (F.len _ _ _ _ hsp)
  have bd := hb _ (Value.ref (s.heap.objs.size + 1) :: us) J.kIn (by rw [List.append_nil]; exact ln)
  rw [List.append_nil] at bd
  refine wpAny_call (make_map (f := f) I.kIn M.makes M.init (beq_iff_eq.mp M.fn) (codeAny_mono (F.run _ X.stack _ _ ⟨Value.ref (s.heap.objs.size + 1) :: us, []⟩ _ _ _ E (hr.make C us []) (J.env0.make C us []) bd rr hsp) fun res s' hz => ?_))
  match res, hz with
  | .error e, hz => exact hx pins _ _ e s' J hz
  | .ok (.ret u), hz =>
    obtain ⟨v, H', I3, rv, ev, q3⟩ := J.after hz
    subst ev
    exact ⟨rv, ⟨V.ref (s.heap.objs.size + 1), H', I3, rfl, q3⟩⟩
  | .ok .next, hz => exact hz.elim
  | .ok .brk, hz => exact hz.elim
  | .ok .cont, hz => exact hz.elim
def tMkX (C : Addr) (sp : Sp) (E : L2.St → XK) (t : TA) : TE := fun σ H Q => t σ H fun vs H1 => ∀ x dx, H1 x = none → H1 dx = none → dx ≠ x → sp (.ref x :: vs) (upd (upd H1 dx (.own x)) x (.ins C dx [])) (fun v H2 => v = .non ∧ Q (.ref x) H2) (E σ)
theorem pe_mkX {E : L2.St → XK} {x : Str} {p pos : Pos} {e : Expr} {es : List Expr} {t : TA} (M : Mk X.K C f) (F : FnOk X.prog X.w X.K X.mg X.base CX lv f fd ps sp) (hr : Room (lv + 1) X.A) (hg : Gl X x) (hm : X.mg x = some (.ref C)) (hb : Binds X.K fd ps []) (hx : ∀ σ, PassesAt CX X σ (E σ)) (ha : PA X (e :: es) t)
    (hdb : (x == ("__debug__" : Str)) = false := by decide) (he : starEach (e :: es) X.env = (false, eval e X.env) :: starEach es X.env := by rfl) (hpl : (backTo pos (starEach es X.env)).any (·.1) = false := by rfl) : PE X (.Call (.Name x p) (e :: es) [] pos) (tMkX C sp E t) :=
  ⟨fun pins s σ H Q I h => wpAny_Call_Name_kw (ld_glob I hg hm (PySem.W.callWith_K (h₀ := X.base) I.ok.mod.kin M.kp (thn (ha.run pos pins s σ H _ I h) fun us s1 ⟨vs, H1, I1, r, q⟩ => ⟨I1.kIn, run_mkX M F hr hb (hx σ) I1 r q⟩) he hpl) hdb)⟩
def tMtX (C : Addr) (m : Str) (sp : Sp) (E : L2.St → XK) (ta : TE) (t : TA) : TE := fun σ H Q => ta σ H fun x H1 => ∃ a dx fs, x = .ref a ∧ H1 a = some (.ins C dx fs) ∧ fs.lookup m = none ∧ t σ H1 fun vs H2 => sp (x :: vs) H2 Q (E σ)
variable {E : L2.St → XK} {m : Str} {apos pos : Pos} {e o : Expr} {es : List Expr} {ta : TE} {t : TA}
theorem pe_mtX {pl : Sem Bool} (ho : PE X o ta) (c : Cls X.K C) (hm : Meth X.K C m f) (F : FnOk X.prog X.w X.K X.mg X.base CX lv f fd ps sp) (hr : Room lv X.A) (hb : Binds X.K fd ps []) (hx : ∀ σ, PassesAt CX X σ (E σ)) (ha : PA X (e :: es) t)
    (hst : starEach (e :: es) X.env = (false, eval e X.env) :: starEach es X.env := by rfl) (hpl : (backTo pos (starEach es X.env)).any (·.1) = false := by rfl)
    (ht : eval (.Call (.Attribute o m apos) (e :: es) [] pos) X.env = (eval o X.env >>= fun ov => standAt apos.atName >>= fun _ => holding [ov] (getMethod ov m pl) >>= fun z => callWith pos z.1 z.2 (backTo pos (starEach (e :: es) X.env)) (backToKw pos (keywordEach [] X.env))) := by rfl) :
    PE X (.Call (.Attribute o m apos) (e :: es) [] pos) (tMtX C m sp E ta t) := by
  refine ⟨fun pins s σ H Q I h => PySem.W.methodCall_KW (pl := pl) (thn (ho.run pins s σ H _ I h) fun u s1 hu => ?_) ht⟩
  obtain ⟨x, H1, I1, rx, a, dx, fs, rfl, ea, l, q⟩ := hu
  obtain rfl : u = Value.ref a := rx
  exact getmeth_ok I1 ea c hm l (PySem.W.callWith_K (first := [.ref a]) (h₀ := X.base) I.ok.mod.kin hm.kp (thn (ha.run pos pins s1 σ H1 _ I1 q) fun us s2 ⟨vs, H2, I2, r, q2⟩ => ⟨I2.kIn, run_fnS (us := .ref a :: us) (vs := .ref a :: vs) F hr hb (hx σ) I2 (.cons rfl r) q2⟩) hst hpl)
theorem pe_mtX0 {pl : Sem Bool} (ho : PE X o ta) (c : Cls X.K C) (hm : Meth X.K C m f) (F : FnOk X.prog X.w X.K X.mg X.base CX lv f fd ps sp) (hr : Room lv X.A) (hb : Binds X.K fd ps []) (hx : ∀ σ, PassesAt CX X σ (E σ))
    (ht : eval (.Call (.Attribute o m apos) [] [] pos) X.env = (eval o X.env >>= fun ov => standAt apos.atName >>= fun _ => holding [ov] (getMethod ov m pl) >>= fun z => callWith pos z.1 z.2 (backTo pos (starEach [] X.env)) (backToKw pos (keywordEach [] X.env))) := by rfl) :
    PE X (.Call (.Attribute o m apos) [] [] pos) (tMtX C m sp E ta tNil) := by
  refine ⟨fun pins s σ H Q I h => PySem.W.methodCall_KW (pl := pl) (thn (ho.run pins s σ H _ I h) fun u s1 hu => ?_) ht⟩
  obtain ⟨x, H1, I1, rx, a, dx, fs, rfl, ea, l, q⟩ := hu
  obtain rfl : u = Value.ref a := rx
  exact getmeth_ok I1 ea c hm l (PySem.W.callWith_K0 (first := [.ref a]) I1.kIn hm.kp (run_fnS (us := [.ref a]) (vs := [.ref a]) F hr hb (hx σ) I1 (.cons rfl .nil) q))
end
/-- what the top has left of a method, of a class's __init__ -/
structure MtF (K : Frag) (C : Addr) (m qual : Str) (st : Stmt) (ps : List Str) : Prop where
  ex : ∃ f fd, Fun K m qual st f fd ∧ Meth K C m f ∧ Binds K fd ps []
structure InF (K : Frag) (C : Addr) (qual : Str) (st : Stmt) (ps : List Str) : Prop where
  ex : ∃ f fd, Fun K "__init__" qual st f fd ∧ Mk K C f ∧ Binds K fd ps []
structure Mt (P : Program) (w : World) (K : Frag) (mg : Str → Option Value) (base : Heap) (C : Addr) (m : Str) (k : Nat) (ct : Ct) : Prop where
  ex : ∃ f fd ps, FnOk P w K mg base (L2N.CX P w) k f fd ps (spOf K ct) ∧ Meth K C m f ∧ Binds K fd ps []
structure Ini (P : Program) (w : World) (K : Frag) (mg : Str → Option Value) (base : Heap) (C : Addr) (k : Nat) (ct : Ct) : Prop where
  ex : ∃ f fd ps, FnOk P w K mg base (L2N.CX P w) k f fd ps (spOf K ct) ∧ Mk K C f ∧ Binds K fd ps []
structure ClF (K : Frag) (mg : Str → Option Value) (x : Str) (C : Addr) : Prop where
  c : Cls K C
  g : mg x = some (.ref C)
section
variable {P : Program} {w : World} {K : Frag} {mg : Str → Option Value} {base : Heap} {C : Addr} {m qual : Str} {st : Stmt} {N ps : List Str} {k : Nat} {ct : Ct}
theorem mt_mk (d : MtF K C m qual st ps) (S : FnScope N ps (defScope st)) (len : ∀ ds A k e, ct ds A k e → ds.length = ps.length) (body : ∀ f, BodyOk P w K mg base N qual st f k ct) : Mt P w K mg base C m (k + 1) ct := by
  obtain ⟨f, fd, F, hm, hb⟩ := d.ex
  exact ⟨f, fd, ps, fnok_mk F S len (body f), hm, hb⟩
theorem in_mk (d : InF K C qual st ps) (S : FnScope N ps (defScope st)) (len : ∀ ds A k e, ct ds A k e → ds.length = ps.length) (body : ∀ f, BodyOk P w K mg base N qual st f k ct) : Ini P w K mg base C (k + 1) ct := by
  obtain ⟨f, fd, F, hm, hb⟩ := d.ex
  exact ⟨f, fd, ps, fnok_mk F S len (body f), hm, hb⟩
theorem mtf_mk {f : Addr} {oc : Value} {od an : Option Addr} {osl : Array (Option Value)} {kV doc pm cdv c2 : Value} (a : PySem.W.findIn K (.ref C) m = some (some (.ref f))) (i : PySem.W.isFn K (.ref f) = true)
    (l : K.lookup f = some ⟨oc, od, .func (PySem.W.fnOf m qual (defArgs st) (defBody st) (defScope st) .none kV doc pm an cdv c2), osl⟩) (c : PySem.W.codeIn K cdv qual = true) (k : PySem.W.keepIn K (.ref f) = true)
    (hb : ∀ (kV doc pm : Value) (an : Option Addr) (cdv ct : Value) (us : List Value), us.length = ps.length → bindArgs (PySem.W.fnOf m qual (defArgs st) (defBody st) (defScope st) .none kV doc pm an cdv ct) ⟨us, []⟩ = pure (ps.zip us)) : MtF K C m qual st ps :=
  have F := fun_mk (st := st) l c k
  ⟨f, _, F, ⟨a, i, k⟩, F.binds hb⟩
theorem inf_mk {f : Addr} {oc : Value} {od an : Option Addr} {osl : Array (Option Value)} {kV doc pm cdv c2 : Value} (mk : PySem.W.makesIn K C = true) (kc : PySem.W.keepIn K (.ref C) = true) (a : PySem.W.findIn K (.ref C) "__init__" = some (some (.ref f))) (i : PySem.W.isFn K (.ref f) = true)
    (l : K.lookup f = some ⟨oc, od, .func (PySem.W.fnOf "__init__" qual (defArgs st) (defBody st) (defScope st) .none kV doc pm an cdv c2), osl⟩) (c : PySem.W.codeIn K cdv qual = true) (k : PySem.W.keepIn K (.ref f) = true)
    (hb : ∀ (kV doc pm : Value) (an : Option Addr) (cdv ct : Value) (us : List Value), us.length = ps.length → bindArgs (PySem.W.fnOf "__init__" qual (defArgs st) (defBody st) (defScope st) .none kV doc pm an cdv ct) ⟨us, []⟩ = pure (ps.zip us)) : InF K C qual st ps :=
  have F := fun_mk (st := st) l c k
  ⟨f, _, F, ⟨mk, a, i, kc⟩, F.binds hb⟩
end
/-- fields -/
def putFD (f : Str) (v : D) : List (Str × D) → List (Str × D)
  | [] => [(f, v)]
  | (g, x) :: r => if g = f then (g, v) :: r else (g, x) :: putFD f v r
abbrev FdP (K : Frag) (H : Hp) : List (Str × V) → List (Str × D) → Prop := Paired fun (p : Str × V) (q : Str × D) => p.1 = q.1 ∧ Rp K H p.2 q.2
theorem fd_look {K : Frag} {H : Hp} {f : Str} : ∀ {gs : List (Str × V)} {fs : List (Str × D)}, FdP K H gs fs → (fs.lookup f = none → gs.lookup f = none) ∧ ∀ d, fs.lookup f = some d → ∃ v, gs.lookup f = some v ∧ Rp K H v d
  | _, _, .nil => ⟨fun _ => rfl, fun d h => (nomatch h)⟩
  | (x, v) :: gs, (y, d) :: fs, .cons h t => by
    obtain ⟨e, r⟩ := h
    have e : x = y := e
    subst e
    by_cases g : f = x
    · subst g
      rw [List.lookup_cons_self, List.lookup_cons_self]
      exact ⟨(fun h => nomatch h), fun d' h => ⟨v, rfl, by cases h; exact r⟩⟩
    · have ne : (f == x) = false := beq_eq_false_iff_ne.mpr g
      rw [List.lookup_cons, List.lookup_cons, ne]
      exact fd_look t
theorem fd_put {K : Frag} {H : Hp} {f : Str} {v : V} {d : D} (r : Rp K H v d) : ∀ {gs : List (Str × V)} {fs : List (Str × D)}, FdP K H gs fs → FdP K H (putF f v gs) (putFD f d fs)
  | _, _, .nil => .cons ⟨rfl, r⟩ .nil
  | (x, u) :: gs, (y, z) :: fs, .cons h t => by
    have e : x = y := h.1
    subst e
    show FdP K H (if x = f then (x, v) :: gs else (x, u) :: putF f v gs) (if x = f then (x, d) :: fs else (x, z) :: putFD f d fs)
    by_cases g : x = f
    · rw [if_pos g, if_pos g]; exact .cons ⟨rfl, r⟩ t
    · rw [if_neg g, if_neg g]; exact .cons h (fd_put r t)
theorem Rel.ins {K : Frag} {A : AH} {H : Hp} {p C dx : Addr} {fs : List (Str × D)} (r : Rel K A H) (h : A p = some (.ins C dx fs)) : ∃ gs, H p = some (.ins C dx gs) ∧ FdP K H gs fs := by
  obtain ⟨u, e1, gs, e2, e3⟩ := r p _ h
  rw [e2] at e1
  exact ⟨gs, e1, e3⟩
section
variable {X : Cx} {W : WX} {ρ : Ro} {A : AH} {e o : Expr} {es : List Expr} {pos apos p0 : Pos} {d : D} {k : AK} {E : AEnds} {lv : Nat} {p C dx : Addr} {fs : List (Str × D)} {f n m : Str} {ct : Ct} {ds : List D} {xc : Value → AH → Prop}
theorem av_fld (c : Cls X.K C) (na : NoAttr X.K C f) (ho : AV X o ρ A (.ref p)) (hl : A p = some (.ins C dx fs)) (h : fs.lookup f = some d) (hb : attributeBase o f X.env (eval o X.env) = eval o X.env := by rfl) : AV X (.Attribute o f pos) ρ A d := fun σ H s Q q =>
  tm_of (pe_fld (pe_tm o) hb) (ho σ H s _ fun v H1 t1 r1 l1 => by
    obtain ⟨gs, e1, e2⟩ := l1.ins hl
    obtain ⟨v', e3, e4⟩ := (fd_look e2).2 d h
    exact ⟨p, C, dx, gs, v', r1.ref_of, e1, c, na, e3, q v' H1 t1 e4 l1⟩)
/-- o.f = e -/
theorem a1_fld {pos' : Pos} (c : Cls X.K C) (na : NoAttr X.K C f) (h : AV X e ρ A d) (ho : AV X o ρ A (.ref p)) (hl : A p = some (.ins C dx fs)) (hn : fs.length < 1000) (q : E.nx ρ (aupd A p (.ins C dx (putFD f d fs)))) (hs : swapsWith e (some (.Attribute o f pos')) pos.line X.env = pure false := by rfl) :
    A1 X W (.Assign [.Attribute o f pos'] e pos) ρ A E := fun σ H s D qq =>
  tm1_of (ps_fld (pe_tm o) (pe_tm e) hs) (h σ H s _ fun v H1 t1 r1 l1 => ho σ H1 (s.mono t1 l1) _ fun u H2 t2 r2 l2 => by
    obtain ⟨gs, e1, e2⟩ := l2.ins hl
    have t3 : TS H2 (upd H2 p (.ins C dx (putF f v gs))) := TS.put e1 (fun _ z => nomatch z) (fun _ _ z => nomatch z)
    have l3 : Rel X.K (aupd A p (.ins C dx (putFD f d fs))) (upd H2 p (.ins C dx (putF f v gs))) := l2.put e1 (fun _ z => nomatch z) (fun _ _ z => nomatch z) ⟨_, rfl, Paired.mapP (fd_put (r1.mono t2) e2) fun _ _ z => ⟨z.1, z.2.mono t3⟩⟩
    exact ⟨p, C, dx, gs, r2.ref_of, e1, c, na, by rw [Paired.length e2]; exact hn, qq.nx ρ _ σ _ ((t1.trans t2).trans t3) (s.mono ((t1.trans t2).trans t3) l3) q⟩)
theorem mkT {H : Hp} {vs : List V} {A1 : AH} (l : Rel X.K A1 H) {x y : Addr} (hx : H x = none) (hy : H y = none) (ne : y ≠ x) : TS H (upd (upd H y (.own x)) x (.ins C y [])) ∧ Rel X.K (aupd A1 x (.ins C y [])) (upd (upd H y (.own x)) x (.ins C y [])) := by
  have hx' : upd H y (.own x) x = none := by rw [upd_ne (fun e => ne e.symm)]; exact hx
  exact ⟨(TS.new hy).trans (TS.new hx'), (l.newAny hy).new hx' ⟨[], rfl, .nil⟩⟩
theorem ae_mk (F : Ini X.prog X.w X.K X.mg X.base C lv ct) (hm : X.mg n = some (.ref C)) (hr : Room (lv + 1) X.A) (hg : Gl X n) (h : AEs X (e :: es) ρ A fun ds A1 => ∀ x y, A1 x = none → ct (.ref x :: ds) (aupd A1 x (.ins C y [])) (fun d A2 => d = .non ∧ k (.ref x) A2) fun _ _ => False)
    (hdb : (n == ("__debug__" : Str)) = false := by decide) (he : starEach (e :: es) X.env = (false, eval e X.env) :: starEach es X.env := by rfl) (hpl : (backTo pos (starEach es X.env)).any (·.1) = false := by rfl) : AE X (.Call (.Name n p0) (e :: es) [] pos) ρ A k := fun σ H s Q q => by
  obtain ⟨f, fd, ps, F, M, hb⟩ := F.ex
  refine tm_of (pe_mkX (E := fun _ => E0) M F hr hg hm hb (fun σ => fun pins H s e s' I c => passN pins σ H s e s' I c) (pa_tm (e :: es)) hdb he hpl) (h σ H s _ fun vs H1 ds A1 t1 r1 l1 h1 x y hx hy ne => ?_)
  obtain ⟨t2, l2⟩ := mkT (vs := vs) (C := C) l1 hx hy ne
  exact ⟨.ref x :: ds, _, _, fun _ _ => False, .cons (.ref x) (r1.mono t2), l2, h1 x y (l1.none hx), fun v H' d A' t3 r3 l3 ⟨ed, k3⟩ => ⟨by rw [ed] at r3; exact r3.non_of, q _ H' _ A' ((t1.trans t2).trans t3) (.ref x) l3 k3⟩, fun _ _ _ _ _ z => z⟩
theorem aex_mk (F : Ini X.prog X.w X.K X.mg X.base C lv ct) (tk : L2N.Takes X W) (hm : X.mg n = some (.ref C)) (hr : Room (lv + 1) X.A) (hg : Gl X n) (h : AEs X (e :: es) ρ A fun ds A1 => ∀ x y, A1 x = none → ct (.ref x :: ds) (aupd A1 x (.ins C y [])) (fun d A2 => d = .non ∧ k (.ref x) A2) xc)
    (hdb : (n == ("__debug__" : Str)) = false := by decide) (he : starEach (e :: es) X.env = (false, eval e X.env) :: starEach es X.env := by rfl) (hpl : (backTo pos (starEach es X.env)).any (·.1) = false := by rfl) : AEx X W (.Call (.Name n p0) (e :: es) [] pos) ρ A xc k := fun σ H s Q q hx0 => by
  obtain ⟨f, fd, ps, F, M, hb⟩ := F.ex
  refine tm_of (pe_mkX (E := WE W) M F hr hg hm hb (fun σ => L2N.passAt tk σ) (pa_tm (e :: es)) hdb he hpl) (h σ H s _ fun vs H1 ds A1 t1 r1 l1 h1 x y hx hy ne => ?_)
  obtain ⟨t2, l2⟩ := mkT (vs := vs) (C := C) l1 hx hy ne
  exact ⟨.ref x :: ds, _, _, xc, .cons (.ref x) (r1.mono t2), l2, h1 x y (l1.none hx), fun v H' d A' t3 r3 l3 ⟨ed, k3⟩ => ⟨by rw [ed] at r3; exact r3.non_of, q _ H' _ A' ((t1.trans t2).trans t3) (.ref x) l3 k3⟩, fun c H' A' t3 l3 k3 => hx0 c H' A' ((t1.trans t2).trans t3) l3 k3⟩
theorem ae_mt (F : Mt X.prog X.w X.K X.mg X.base C m lv ct) (c : Cls X.K C) (hr : Room lv X.A) (ho : AV X o ρ A (.ref p)) (hl : A p = some (.ins C dx fs)) (hn : fs.lookup m = none) (h : AEs X (e :: es) ρ A fun ds A1 => ct (.ref p :: ds) A1 k fun _ _ => False)
    {pl : Sem Bool} (hst : starEach (e :: es) X.env = (false, eval e X.env) :: starEach es X.env := by rfl) (hpl : (backTo pos (starEach es X.env)).any (·.1) = false := by rfl)
    (ht : eval (.Call (.Attribute o m apos) (e :: es) [] pos) X.env = (eval o X.env >>= fun ov => standAt apos.atName >>= fun _ => holding [ov] (getMethod ov m pl) >>= fun z => callWith pos z.1 z.2 (backTo pos (starEach (e :: es) X.env)) (backToKw pos (keywordEach [] X.env))) := by rfl) : AE X (.Call (.Attribute o m apos) (e :: es) [] pos) ρ A k := fun σ H s Q q => by
  obtain ⟨f, fd, ps, F, M, hb⟩ := F.ex
  refine tm_of (pe_mtX (E := fun _ => E0) (pe_tm o) c M F hr hb (fun σ => fun pins H s e s' I c => passN pins σ H s e s' I c) (pa_tm (e :: es)) hst hpl ht) (ho σ H s _ fun v H1 t1 r1 l1 => ?_)
  obtain ⟨gs, e1, e2⟩ := l1.ins hl
  refine ⟨p, dx, gs, r1.ref_of, e1, (fd_look e2).1 hn, h σ H1 (s.mono t1 l1) _ fun vs H2 ds A2 t2 r2 l2 h2 => ?_⟩
  rw [r1.ref_of]
  exact ⟨.ref p :: ds, A2, k, fun _ _ => False, .cons (.ref p) r2, l2, h2, fun v H' d A' t3 r3 l3 k3 => q v H' d A' ((t1.trans t2).trans t3) r3 l3 k3, fun _ _ _ _ _ z => z⟩
theorem aex_mt (F : Mt X.prog X.w X.K X.mg X.base C m lv ct) (tk : L2N.Takes X W) (c : Cls X.K C) (hr : Room lv X.A) (ho : AV X o ρ A (.ref p)) (hl : A p = some (.ins C dx fs)) (hn : fs.lookup m = none) (h : AEs X (e :: es) ρ A fun ds A1 => ct (.ref p :: ds) A1 k xc)
    {pl : Sem Bool} (hst : starEach (e :: es) X.env = (false, eval e X.env) :: starEach es X.env := by rfl) (hpl : (backTo pos (starEach es X.env)).any (·.1) = false := by rfl)
    (ht : eval (.Call (.Attribute o m apos) (e :: es) [] pos) X.env = (eval o X.env >>= fun ov => standAt apos.atName >>= fun _ => holding [ov] (getMethod ov m pl) >>= fun z => callWith pos z.1 z.2 (backTo pos (starEach (e :: es) X.env)) (backToKw pos (keywordEach [] X.env))) := by rfl) : AEx X W (.Call (.Attribute o m apos) (e :: es) [] pos) ρ A xc k := fun σ H s Q q hx0 => by
  obtain ⟨f, fd, ps, F, M, hb⟩ := F.ex
  refine tm_of (pe_mtX (E := WE W) (pe_tm o) c M F hr hb (fun σ => L2N.passAt tk σ) (pa_tm (e :: es)) hst hpl ht) (ho σ H s _ fun v H1 t1 r1 l1 => ?_)
  obtain ⟨gs, e1, e2⟩ := l1.ins hl
  refine ⟨p, dx, gs, r1.ref_of, e1, (fd_look e2).1 hn, h σ H1 (s.mono t1 l1) _ fun vs H2 ds A2 t2 r2 l2 h2 => ?_⟩
  rw [r1.ref_of]
  exact ⟨.ref p :: ds, A2, k, xc, .cons (.ref p) r2, l2, h2, fun v H' d A' t3 r3 l3 k3 => q v H' d A' ((t1.trans t2).trans t3) r3 l3 k3, fun c H' A' t3 l3 k3 => hx0 c H' A' ((t1.trans t2).trans t3) l3 k3⟩
theorem ae_mt0 (F : Mt X.prog X.w X.K X.mg X.base C m lv ct) (c : Cls X.K C) (hr : Room lv X.A) (ho : AV X o ρ A (.ref p)) (hl : A p = some (.ins C dx fs)) (hn : fs.lookup m = none) (h : ct [.ref p] A k fun _ _ => False)
    {pl : Sem Bool} (ht : eval (.Call (.Attribute o m apos) [] [] pos) X.env = (eval o X.env >>= fun ov => standAt apos.atName >>= fun _ => holding [ov] (getMethod ov m pl) >>= fun z => callWith pos z.1 z.2 (backTo pos (starEach [] X.env)) (backToKw pos (keywordEach [] X.env))) := by rfl) : AE X (.Call (.Attribute o m apos) [] [] pos) ρ A k := fun σ H s Q q => by
  obtain ⟨f, fd, ps, F, M, hb⟩ := F.ex
  refine tm_of (pe_mtX0 (E := fun _ => E0) (pe_tm o) c M F hr hb (fun σ => fun pins H s e s' I c => passN pins σ H s e s' I c) ht) (ho σ H s _ fun v H1 t1 r1 l1 => ?_)
  obtain ⟨gs, e1, e2⟩ := l1.ins hl
  refine ⟨p, dx, gs, r1.ref_of, e1, (fd_look e2).1 hn, ?_⟩
  rw [r1.ref_of]
  exact ⟨[.ref p], A, k, fun _ _ => False, .one (.ref p), l1, h, fun v H' d A' t3 r3 l3 k3 => q v H' d A' (t1.trans t3) r3 l3 k3, fun _ _ _ _ _ z => z⟩
end
end C7
namespace C7
open PySem PySem.Spec PyProof.Rows L2
theorem Fn.alias {P : Program} {w : World} {K : Frag} {mg : Str → Option Value} {base : Heap} {x y : Str} {k : Nat} {ct : Ct} (F : Fn P w K mg base x k ct) (h : mg y = mg x) : Fn P w K mg base y k ct :=
  let ⟨f, fd, ps, F, m, r⟩ := F.ex; ⟨f, fd, ps, F, h.trans m, r⟩
end C7
namespace C7
open PySem PySem.Spec PyProof.Rows L2
theorem a1_asgx {X : Cx} {W : WX} {ρ : Ro} {A : AH} {e : Expr} {pos : Pos} {E : AEnds} {tg : Expr} {is : List Nat} (h : AEx X W e ρ A (fun c A' => E.xc c ρ A') fun d A' => ∃ ρ', AG X tg is ρ d ρ' ∧ E.nx ρ' A') (hs : swapsWithSole [tg] e pos.line X.env = pure false := by rfl) (hw : swappedStores [tg] e X.env = pure none := by rfl)
    (h1 : (assignEach [tg] X.env).map (·.2) = [assign tg X.env] := by rfl) : A1 X W (.Assign [tg] e pos) ρ A E := fun σ H s D q =>
  tm1_of (ps_asg (pe_tm e) (pg_tm tg) hs hw h1) (h σ H s _ (fun v H' d A' t r l ⟨ρ', g, kd⟩ => g v σ H' A' (s.mono t l) r _ fun σ' _ _ s' => q.nx ρ' A' σ' H' t s' kd) fun c H' A' t l kd => q.xc c ρ A' σ H' t (s.mono t l) kd)
end C7
namespace C7
open PySem PySem.Spec PyProof.Rows L2
/-! ### a new list of new lists -/
structure NQ (A : AH) (r : Addr) (ps : List Addr) (A' : AH) (Q : Nat → List D → Prop) : Prop where
  x : Ext A A'
  r0 : A r = none
  rl : A' r = some (.lst (ps.map D.ref))
  nr : r ∉ ps
  el : ∀ i p, ps[i]? = some p → A p = none ∧ ∃ ds, A' p = some (.lst ds) ∧ Q i ds
structure NL (A : AH) (r : Addr) (ps : List Addr) (A' : AH) (rs : List (List D)) : Prop where
  q : NQ A r ps A' fun i ds => ds = rs.getD i []
  len : ps.length = rs.length
  nd : ps.Nodup
theorem NQ.mono {A : AH} {r : Addr} {ps : List Addr} {A' : AH} {Q Q' : Nat → List D → Prop} (h : NQ A r ps A' Q) (hq : ∀ i ds, i < ps.length → Q i ds → Q' i ds) : NQ A r ps A' Q' :=
  ⟨h.x, h.r0, h.rl, h.nr, fun i p e => ⟨(h.el i p e).1, let ⟨ds, h1, h2⟩ := (h.el i p e).2; ⟨ds, h1, hq i ds (by rw [List.getElem?_eq_some_iff] at e; exact e.1) h2⟩⟩⟩
/-- one of the rows is written -/
theorem NQ.put {A : AH} {r : Addr} {ps : List Addr} {A' : AH} {Q Q' : Nat → List D → Prop} (h : NQ A r ps A' Q) {i : Nat} {p : Addr} {ds : List D} (hp : ps[i]? = some p) (h1 : ∀ j, ps[j]? = some p → Q' j ds) (h2 : ∀ j q ds, ps[j]? = some q → q ≠ p → Q j ds → Q' j ds) : NQ A r ps (aupd A' p (.lst ds)) Q' := by
  have hA := (h.el i p hp).1
  have ne : r ≠ p := fun e => h.nr (by rw [e]; exact List.mem_of_getElem? hp)
  refine ⟨h.x.put hA, h.r0, by rw [aupd_ne ne]; exact h.rl, h.nr, fun j q hq => ⟨(h.el j q hq).1, ?_⟩⟩
  by_cases e : q = p
  · subst e; exact ⟨ds, aupd_same, h1 j hq⟩
  · obtain ⟨es, e1, e2⟩ := (h.el j q hq).2
    exact ⟨es, by rw [aupd_ne e]; exact e1, h2 j q es hq e e2⟩
theorem NL.get {A : AH} {r : Addr} {ps : List Addr} {A' : AH} {rs : List (List D)} (h : NL A r ps A' rs) {i : Nat} (hi : i < rs.length) : ∃ p, ps[i]? = some p ∧ A' p = some (.lst (rs.getD i [])) := by
  have : i < ps.length := by rw [h.len]; exact hi
  refine ⟨ps[i], List.getElem?_eq_getElem this, ?_⟩
  obtain ⟨_, ds, h1, h2⟩ := h.q.el i _ (List.getElem?_eq_getElem this)
  rw [← h2]; exact h1
theorem NL.frs {A : AH} {A' : AH} : ∀ (ps : List Addr) (rs : List (List D)), ps.length = rs.length → (∀ i p, ps[i]? = some p → A p = none ∧ ∃ ds, A' p = some (.lst ds) ∧ ds = rs.getD i []) → Frs A A' (ps.map D.ref) (rs.map D.fz)
  | [], [], _, _ => .nil
  | p :: ps, d :: rs, e, h => by
    obtain ⟨h0, ds, h1, h2⟩ := h 0 p rfl
    have h2 : ds = d := h2
    subst h2
    exact .cons (.lst h0 h1 (Frs.refl _)) (NL.frs ps rs (by simpa using e) fun i q hq => h (i + 1) q hq)
  | [], _ :: _, e, _ => nomatch e
  | _ :: _, [], e, _ => nomatch e
theorem NL.fr {A : AH} {r : Addr} {ps : List Addr} {A' : AH} {rs : List (List D)} (h : NL A r ps A' rs) : Fr A A' (.ref r) (.fz (rs.map D.fz)) := .lst h.q.r0 h.q.rl (NL.frs ps rs h.len h.q.el)
theorem NL.kz {A : AH} {r : Addr} {ps : List Addr} {A' : AH} {rs : List (List D)} (h : NL A r ps A' rs) {k : AK} (q : k (.fz (rs.map D.fz)) A) : ∃ A0 v, Ext A0 A' ∧ Fr A0 A' (.ref r) v ∧ k v A0 := ⟨A, _, h.q.x, h.fr, q⟩
/-- d is a list of lists -/
def IsLL (A : AH) (d : D) (rs : List (List D)) : Prop := ∃ ds, IsL A d ds ∧ ds.length = rs.length ∧ ∀ i, i < rs.length → IsL A (ds.getD i .non) (rs.getD i [])
theorem NL.ll {A : AH} {r : Addr} {ps : List Addr} {A' : AH} {rs : List (List D)} (h : NL A r ps A' rs) : IsLL A' (.ref r) rs := by
  refine ⟨ps.map D.ref, IsL.of h.q.rl, by rw [List.length_map]; exact h.len, fun i hi => ?_⟩
  obtain ⟨p, h1, h2⟩ := h.get hi
  rw [List.getD_eq_getElem?_getD, List.getElem?_map, h1]
  exact IsL.of h2
theorem IsLL.fz {A : AH} {rs : List (List D)} : IsLL A (.fz (rs.map D.fz)) rs := by
  refine ⟨rs.map D.fz, IsL.fz, by simp, fun i hi => ?_⟩
  rw [List.getD_eq_getElem?_getD, List.getElem?_map, List.getD_eq_getElem?_getD, List.getElem?_eq_getElem hi]
  exact IsL.fz
theorem IsLL.ext {A A' : AH} {d : D} {rs : List (List D)} (h : IsLL A d rs) (e : Ext A A') : IsLL A' d rs :=
  let ⟨ds, h1, h2, h3⟩ := h; ⟨ds, h1.ext e, h2, fun i hi => (h3 i hi).ext e⟩
section
variable {α : Type} [DecidableEq α] (e : Enc α)
theorem pysLL {A : AH} : ∀ (ds : List D) (xss : List (List α)), ds.length = xss.length → (∀ i, i < xss.length → IsL A (ds.getD i .non) ((xss.getD i []).map e.d)) → Pys A ds (xss.map fun xs => PyData.list (xs.map e.p))
  | [], [], _, _ => .nil
  | d :: ds, xs :: xss, l, h => .cons (pyL e (h 0 (Nat.succ_pos _))) (pysLL ds xss (by simpa using l) fun i hi => h (i + 1) (Nat.succ_lt_succ hi))
  | [], _ :: _, l, _ => nomatch l
  | _ :: _, [], l, _ => nomatch l
theorem IsLL.py {A : AH} {d : D} {xss : List (List α)} (h : IsLL A d (xss.map fun xs => xs.map e.d)) : Py A d (PyData.list (xss.map fun xs => PyData.list (xs.map e.p))) := by
  obtain ⟨ds, h1, h2, h3⟩ := h
  refine .lst h1 (pysLL e ds xss (by simpa using h2) fun i hi => ?_)
  have := h3 i (by simpa using hi)
  rw [List.getD_eq_getElem?_getD, List.getD_eq_getElem?_getD, List.getElem?_map, List.getElem?_eq_getElem hi] at this
  rw [List.getD_eq_getElem?_getD, List.getD_eq_getElem?_getD, List.getElem?_eq_getElem hi]
  exact this
end
section
variable {X : Cx} {W : WX} {ρ : Ro} {A : AH} {pos : Pos} {k : AK}
/-- [.. for ..] each of which is a new list -/
theorem ac_lcL {tg iter elt : Expr} {is : List Nat} {scope : Scope} {own : List (Str × Nat)} {g : Nat → List D} {n : Nat} (hsub : ∀ i ∈ is, i ∈ own.map (·.2))
    (hi : AI X tg iter ρ A fun A1 G n' f => n' = n ∧ Ext A A1 ∧ n ≤ sizeLine ∧ (∀ A', Ext A1 A' → G A') ∧
      ∀ i, i < n → ∃ ρ2, ∀ (s : Shared) (H : Hp) (C : Addr) (cl : List (Str × Addr)) (fp : List Addr), AG (X.blk s H scope (compEnvC scope cl C X.env) fp) tg is (wipeR ρ (own.map (·.2))) (f i) ρ2 ∧ ∀ A', Ext A1 A' → AL (X.blk s H scope (compEnvC scope cl C X.env) fp) elt ρ2 A' (g i))
    (q : ∀ r ps A', NL A r ps A' ((List.range n).map g) → k (.ref r) A') : AC X elt tg iter scope own ρ A k := by
  refine ac_lc (is := is) hsub ?_
  intro σ H s R hR
  refine hi σ H s R fun J H' A1 G n' f t l wk ⟨en, ex, hn, hG, hb⟩ => hR J H' A1 G n' f t l wk ?_
  subst en
  refine ⟨hn, fun p i acc A' => ∃ ps : List Addr, acc = ps.map D.ref ∧ ps.length = i ∧ Ext A1 A' ∧ A1 p = none ∧ A' p = some (.lst acc) ∧ p ∉ ps ∧ ps.Nodup ∧ ∀ j q, ps[j]? = some q → A1 q = none ∧ A' q = some (.lst (g j)), ?_, ?_, ?_, ?_⟩
  · intro p hp
    exact ⟨[], rfl, rfl, Ext.new hp, hp, aupd_same, by simp, List.nodup_nil, fun j q h => by simp at h⟩
  · rintro p i acc A' hle ⟨ps, rfl, e2, e3, _⟩
    exact ⟨hG A' e3, by rw [List.length_map]; exact e2⟩
  · rintro p i acc A' hlt ⟨ps, rfl, e2, e3, e4, e5, e6, e7, e8⟩
    obtain ⟨ρ2, hb⟩ := hb i hlt
    refine ⟨ρ2, fun s H C cl fp => ⟨(hb s H C cl fp).1, ((hb s H C cl fp).2 A' e3).ae fun z hz => ?_⟩⟩
    have zp : p ≠ z := fun e => by rw [← e, e5] at hz; cases hz
    have zps : z ∉ ps := fun hm => by
      obtain ⟨j, hj⟩ := List.getElem?_of_mem hm
      rw [(e8 j z hj).2] at hz; cases hz
    refine ⟨by rw [aupd_ne zp]; exact e5, ps ++ [z], by rw [List.map_append]; rfl, by rw [List.length_append, e2]; rfl, (e3.trans (Ext.new hz)).put e4, e4, aupd_same, ?_, ?_, ?_⟩
    · rw [List.mem_append, List.mem_singleton]; exact fun h => h.elim e6 zp
    · exact List.nodup_append.mpr ⟨e7, by simp, fun a ha b hb => by rw [List.mem_singleton.mp hb]; exact fun e => zps (e ▸ ha)⟩
    · intro j y hy
      by_cases hj : j < ps.length
      · rw [List.getElem?_append_left hj] at hy
        obtain ⟨h1, h2⟩ := e8 j y hy
        have ym : y ∈ ps := List.mem_of_getElem? hy
        have n1 : y ≠ p := fun e => e6 (by rw [← e]; exact ym)
        have n2 : y ≠ z := fun e => zps (by rw [← e]; exact ym)
        exact ⟨h1, by rw [aupd_ne n1, aupd_ne n2]; exact h2⟩
      · rw [List.getElem?_append_right (by omega)] at hy
        have ej : j = ps.length := by
          have := (List.getElem?_eq_some_iff.mp hy).1
          simp at this; omega
        subst ej
        rw [Nat.sub_self] at hy
        cases hy
        exact ⟨e3.none hz, by rw [aupd_ne (show z ≠ p from fun e => zp e.symm), aupd_same, e2]⟩
  · rintro p acc A' ⟨ps, rfl, e2, e3, e4, e5, e6, e7, e8⟩
    refine q p ps A' ⟨⟨ex.trans e3, ex.none e4, e5, e6, fun i y hy => ⟨ex.none (e8 i y hy).1, _, (e8 i y hy).2, ?_⟩⟩, by simp [e2], e7⟩
    have hi : i < ps.length := (List.getElem?_eq_some_iff.mp hy).1
    rw [List.getD_eq_getElem?_getD, List.getElem?_map, List.getElem?_range (by omega)]; rfl
theorem NQ.new {r : Addr} {ps : List Addr} {A' : AH} {Q : Nat → List D → Prop} (h : NQ A r ps A' Q) {x : Addr} {o : AO} (hx : A' x = none) : NQ A r ps (aupd A' x o) Q := by
  have e := Ext.new (o := o) hx
  exact ⟨h.x.trans e, h.r0, e _ _ h.rl, h.nr, fun i p hp => ⟨(h.el i p hp).1, let ⟨ds, h1, h2⟩ := (h.el i p hp).2; ⟨ds, e _ _ h1, h2⟩⟩⟩
theorem NQ.ne {r : Addr} {ps : List Addr} {A' : AH} {Q : Nat → List D → Prop} (h : NQ A r ps A' Q) {x : Addr} (hx : A' x = none) : x ≠ r ∧ ∀ p ∈ ps, x ≠ p := by
  refine ⟨fun e => (by rw [e, h.rl] at hx; cases hx), fun p hp e => ?_⟩
  obtain ⟨i, hi⟩ := List.getElem?_of_mem hp
  obtain ⟨_, ds, h1, _⟩ := h.el i p hi
  rw [e, h1] at hx; cases hx
section
variable {α : Type} [DecidableEq α] (e : Enc α)
theorem av_eqLL {lv : Nat} {a b : Expr} {xss yss : List (List α)} (he : ∀ x, (e.p x).depth ≤ 10) (he2 : ∀ x, ((eL e he).p x).depth ≤ 10) (hr : Room lv X.A) (ha : ∀ k : AK, (∀ r ps A', NL A r ps A' (xss.map fun xs => xs.map e.d) → k (.ref r) A') → AE X a ρ A k) (hb : ∀ A', Ext A A' → AV X b ρ A' (.fz (yss.map fun ys => D.fz (ys.map e.d)))) :
    AV X (.Compare a [.Eq] [b] pos) ρ A (.bl (decide (xss = yss))) := by
  rw [← (eL (eL e he) he2).eqv]
  exact AE.av (ae_eqP hr (ha _ fun r ps A' h => (hb A' h.q.x).ae ⟨_, _, h.ll.py e, (eL (eL e he) he2).py A' yss, (eL (eL e he) he2).shp xss, (eL (eL e he) he2).shp yss, rfl, h.q.x⟩))
end
/-- what is known of new lists is left -/
theorem as_weak {A0 : AH} {sts : List Stmt} {E : AEnds} (x : Ext A0 A) (h : AS X W sts ρ A0 E) : AS X W sts ρ A E := fun σ H s D q => h σ H ⟨s.len, s.val, fun a o e => s.hp a o (x a o e)⟩ D q
end
end C7
namespace C7
open PySem PySem.Spec PyProof.Rows L2
/-! ### isinstance of the caught error, with a tuple of classes -/
def rIsET (K : Frag) (D a : Addr) (xs : List V) (H : Hp) (Q : VK) : Prop := ∃ tp cs us b, xs = [V.ref a, V.ref tp] ∧ SqT K H tp cs ∧ Paired ClsV cs us ∧ PySem.W.kitAny K (.ref D) us = some b ∧ Q (.bl b) H
theorem call_isET {X : Cx} {a D : Addr} {oe : Obj} {pn : List (Addr × Obj)} (C : L2.ExcC X.K D) (hz : L2.Zc (.ref D) none oe) (hf : ∃ vs, oe.data = .fields vs) : CallR (X.suite a ((a, oe) :: pn)) (.builtin "isinstance") (rIsET X.K D a) := by
  intro pins s σ H xs us Q I r h
  obtain ⟨tp, cs, ts, b, rfl, ht, hc, hk, q⟩ := h
  obtain ⟨u, v, rfl, ru, rv⟩ := vals2 r
  obtain rfl : u = .ref a := ru
  obtain rfl : v = .ref tp := rv
  obtain ⟨its, rr, ⟨o, ho, hcls, n, hd⟩, hl⟩ := I.tuple ht
  have e := ClsV.all hc rr
  subst e
  obtain ⟨hget, _⟩ := I.pin (a, oe) (List.mem_append.mpr (.inl List.mem_cons_self))
  obtain ⟨fv, hv⟩ := hf
  have J : PySem.W.InstAt s.heap a oe D none := by
    refine ⟨hget, hz.1, ?_, ?_⟩
    · unfold PySem.W.notCls; rw [hv]
    · rw [hz.2]; trivial
  obtain ⟨oc, od, dt, sl⟩ := o
  dsimp only at hcls hd
  subst hcls hd
  exact PySem.W.kia_tup (PySem.W.handS_kitx_exc C.hg C.hk C.hs C.hd C.ha C.hn C.ht C.hm) I.kIn J ho hk (by intro h; cases h) fun tk => ⟨.bl b, H, I.kept fun _ _ z => z, rfl, q⟩
theorem clsv {K : Frag} {H : Hp} : ∀ {vs : List V} {Cs : List Addr}, Rps K H vs (Cs.map D.ref) → Paired ClsV vs (Cs.map Value.ref)
  | _, [], .nil => .nil
  | _, C :: Cs, .cons r rs => .cons (by rw [r.ref_of]; exact .own C) (clsv rs)
section
variable {X : Cx} {ρ : Ro} {A : AH} {a b : Expr} {pos p0 : Pos} {D0 p : Addr} {oe : Obj} {pn : List (Addr × Obj)}
theorem kitAny_none {K : Frag} {t : Value} : ∀ {cs : List Value}, (∀ c ∈ cs, PySem.W.kitOne K t c = some false) → PySem.W.kitAny K t cs = some false
  | [], _ => rfl
  | c :: cs, h => by
    have h1 := h c List.mem_cons_self
    have h2 := kitAny_none fun d hd => h d (List.mem_cons_of_mem c hd)
    unfold PySem.W.kitAny
    simp only [h1, h2]
    try rfl
theorem av_isET {Cs : List Addr} (C : ExcC X.K D0) (hz : L2N.Zn (.ref D0) none oe) (hf : ∃ vs, oe.data = .fields vs) (hg : Gl X "isinstance") (hm : X.mg "isinstance" = none)
    (ha : AVs (X.suite p ((p, oe) :: pn)) [a, b] ρ A [.ref p, .tup (Cs.map D.ref)]) (hk : ∀ c ∈ Cs, PySem.W.kitOne X.K (.ref D0) (.ref c) = some false)
    (hs : starEach [a, b] X.env = (false, eval a X.env) :: starEach [b] X.env := by rfl) (hpl : (backTo pos (starEach [b] X.env)).any (·.1) = false := by rfl) :
    AV (X.suite p ((p, oe) :: pn)) (.Call (.Name "isinstance" p0) [a, b] [] pos) ρ A (.bl false) :=
  av_callB (call_isET C hz.zc hf) hg hm (by decide +kernel) ha (fun vs H r l Q q => by
    obtain ⟨v, v', rfl, r1, r2⟩ := rps2 r
    obtain ⟨tp, cs, rfl, h1, h2⟩ := r2.tup_of
    rw [r1.ref_of]
    refine ⟨tp, cs, Cs.map Value.ref, false, rfl, h1, clsv h2, kitAny_none fun c hc => ?_, q _ H (TS.refl H) (.bl _) l⟩
    rw [List.mem_map] at hc
    obtain ⟨c', hc', rfl⟩ := hc
    exact hk c' hc') (he := hs) (hpl := hpl)
end
end C7
namespace C7
open PySem PySem.Spec PyProof.Rows L2
/-! ### texts -/
/-- a whole number, written -/
def tx (i : Int) : Str := Str.ofString (toString i)
section
variable {X : Cx} {ρ : Ro} {A : AH} {pos p0 apos cpos : Pos} {k : AK} {a b e o : Expr} {x y : Str} {d d1 : D} {ds : List D}
theorem dec_VS : decide (V.str x = V.str y) = decide (x = y) := by
  by_cases h : x = y
  · subst h; simp
  · rw [decide_eq_false h, decide_eq_false fun e => h (V.str.inj e)]
theorem cmpEqS : ∀ v u H, Rp X.K H v (.str x) → Rp X.K H u (.str y) → Rel X.K A H → ∀ Q : VK, (∀ H', TS H H' → Rel X.K A H' → Q (.bl (decide (x = y))) H') → rEq v u H Q := fun v u H r1 r2 l Q q => by
  rw [r1.str_of, r2.str_of]
  refine ⟨rfl, ?_⟩
  rw [dec_VS]
  exact q H (TS.refl H) l
theorem cmpNeS : ∀ v u H, Rp X.K H v (.str x) → Rp X.K H u (.str y) → Rel X.K A H → ∀ Q : VK, (∀ H', TS H H' → Rel X.K A H' → Q (.bl (!decide (x = y))) H') → rNe v u H Q := fun v u H r1 r2 l Q q => by
  rw [r1.str_of, r2.str_of]
  refine ⟨rfl, ?_⟩
  rw [dec_VS]
  exact q H (TS.refl H) l
theorem at_eqS (ha : AV X a ρ A (.str x)) (hb : AV X b ρ A (.str y)) : AT X (.Compare a [.Eq] [b] pos) ρ A (decide (x = y)) := at_cmp op_eq (nomark _) ha hb cmpEqS
theorem at_neS (ha : AV X a ρ A (.str x)) (hb : AV X b ρ A (.str y)) : AT X (.Compare a [.NotEq] [b] pos) ρ A (!decide (x = y)) := at_cmp op_ne (nomark _) ha hb cmpNeS
theorem av_eqS (ha : AV X a ρ A (.str x)) (hb : AV X b ρ A (.str y)) : AV X (.Compare a [.Eq] [b] pos) ρ A (.bl (decide (x = y))) := av_cmp op_eq (nomark _) ha hb fun v u H r1 r2 l Q q => cmpEqS v u H r1 r2 l Q (blz q)
theorem av_neS (ha : AV X a ρ A (.str x)) (hb : AV X b ρ A (.str y)) : AV X (.Compare a [.NotEq] [b] pos) ρ A (.bl (!decide (x = y))) := av_cmp op_ne (nomark _) ha hb fun v u H r1 r2 l Q q => cmpNeS v u H r1 r2 l Q (blz q)
theorem av_catS (ha : AV X a ρ A (.str x)) (hb : AV X b ρ A (.str y)) (hz : x.length + y.length ≤ sizeLine) : AV X (.BinOp a .Add b pos) ρ A (.str (x ++ y)) :=
  av_op op_add_str ha hb fun v u H r1 r2 l Q q => by
    rw [r1.str_of, r2.str_of]
    exact ⟨x, y, rfl, rfl, hz, q _ H (TS.refl H) (.str _) l⟩
theorem av_lenS (hg : Gl X "len") (hm : X.mg "len" = none) (h : AV X a ρ A (.str x)) (hz : x.length ≤ sizeLine) (hs : starEach [a] X.env = [(false, eval a X.env)] := by rfl) : AV X (.Call (.Name "len" p0) [a] [] pos) ρ A (.int (x.length : Nat)) :=
  av_callB call_len_str hg hm PySem.boot_len (avs_cons h avs_nil hs) (fun vs H r l Q q => by
    obtain ⟨v, rfl, r1⟩ := rps1 r
    rw [r1.str_of]
    exact ⟨x, rfl, hz, q _ H (TS.refl H) (.int _) l⟩) (he := hs) (hpl := rfl)
theorem av_strI {i : Int} (hg : Gl X "str") (hm : X.mg "str" = none) (h : AV X a ρ A (.int i)) (hz : i.natAbs.log2 < 1920) (hs : starEach [a] X.env = [(false, eval a X.env)] := by rfl) : AV X (.Call (.Name "str" p0) [a] [] pos) ρ A (.str (tx i)) :=
  AE.av (ae_callTy call_str_int hg hm (by decide +kernel) (aes_cons (h.ae (aes_nil (fun vs H r l Q q => by
    obtain ⟨v, rfl, r1⟩ := rps1 r
    rw [r1.int_of]
    exact ⟨i, rfl, hz, q _ H _ A (TS.refl H) (.str _) l ⟨rfl, Ext.refl A⟩⟩))) hs) (he := hs) (hpl := rfl))
theorem av_intS {i : Int} (hg : Gl X "int") (hm : X.mg "int" = none) (h : AV X a ρ A (.str x)) (hi : PySem.intText? x = some i) (hz : x.length ≤ 640) (hs : starEach [a] X.env = [(false, eval a X.env)] := by rfl) : AV X (.Call (.Name "int" p0) [a] [] pos) ρ A (.int i) :=
  AE.av (ae_callTy call_int_str hg hm (by decide +kernel) (aes_cons (h.ae (aes_nil (fun vs H r l Q q => by
    obtain ⟨v, rfl, r1⟩ := rps1 r
    rw [r1.str_of]
    exact ⟨x, i, rfl, hi, hz, q _ H _ A (TS.refl H) (.int _) l ⟨rfl, Ext.refl A⟩⟩))) hs) (he := hs) (hpl := rfl))
theorem av_ixS {i : Int} {c : Nat} (ha : AV X a ρ A (.str x)) (hb : AV X b ρ A (.int i)) (h0 : 0 ≤ i) (h1 : i < 2 ^ 63) (hc : x.cps[i.toNat]? = some c) (hs : PlainIxT b := by intro _ _; rfl) : AV X (.Subscript a b pos) ρ A (.str ⟨#[c]⟩) := fun σ H s Q q =>
  tm_of (pe_item_str (pe_tm a) (pe_tm b) hs) (ha σ H s _ fun v H1 t1 r1 l1 => hb σ H1 (s.mono t1 l1) _ fun u H2 t2 r2 l2 => by
    rw [r2.int_of, r1.str_of]
    have hl : i.toNat < x.cps.size := (Array.getElem?_eq_some_iff.mp hc).1
    exact ⟨x, i, c, rfl, rfl, h0, h1, by show i < ((x.cps.size : Nat) : Int); omega, hc, q _ H2 (t1.trans t2) (.str _) l2⟩)
theorem av_slS {lo hi : Option Expr} {lo' hi' : Option Int} {p2 : Pos} (h : AV X e ρ A (.str x)) (hz : x.length ≤ sizeLine) (hlo : AO' X lo ρ A lo') (hhi : AO' X hi ρ A hi') : AV X (.Subscript e (.Slice lo hi none p2) pos) ρ A (.str (cutS x lo' hi')) := fun σ H s Q q =>
  tm_of (pe_slice sl_str (pe_tm e) (po_tm lo) (po_tm hi)) (h σ H s _ fun v H1 t1 r1 l1 => by
    refine hlo.run (s.mono t1 l1) fun H2 t2 l2 => hhi.run ((s.mono t1 l1).mono t2 l2) fun H3 t3 l3 => ?_
    rw [r1.str_of]
    exact ⟨x, rfl, hz, q _ _ ((t1.trans t2).trans t3) (.str _) l3⟩)
theorem cmpInSg {c : Nat} : ∀ v u H, Rp X.K H v (.str ⟨#[c]⟩) → Rp X.K H u (.str y) → Rel X.K A H → ∀ Q : VK, (∀ H', TS H H' → Rel X.K A H' → Q (.bl (decide (c ∈ y.cps.toList))) H') → ∃ (c : Nat) (z : Str), v = .str ⟨#[c]⟩ ∧ u = .str z ∧ Q (.bl (decide (c ∈ z.cps.toList))) H := fun v u H r1 r2 l Q q => by
  rw [r1.str_of, r2.str_of]
  exact ⟨c, y, rfl, rfl, q H (TS.refl H) l⟩
theorem at_inSg {c : Nat} (ha : AV X a ρ A (.str ⟨#[c]⟩)) (hb : AV X b ρ A (.str y)) (hm : behindInMarks .In b = false := by rfl) : AT X (.Compare a [.In] [b] pos) ρ A (decide (c ∈ y.cps.toList)) := at_cmp op_in_sign hm ha hb cmpInSg
theorem at_notInSg {c : Nat} (ha : AV X a ρ A (.str ⟨#[c]⟩)) (hb : AV X b ρ A (.str y)) (hm : behindInMarks .NotIn b = false := by rfl) : AT X (.Compare a [.NotIn] [b] pos) ρ A (!decide (c ∈ y.cps.toList)) :=
  at_cmp op_notIn_sign hm ha hb fun v u H r1 r2 l Q q => by
    rw [r1.str_of, r2.str_of]
    exact ⟨c, y, rfl, rfl, q H (TS.refl H) l⟩
/-! methods of texts -/
variable {id : String} {name : Str} {r : V → List V → Hp → VK → Prop}
theorem av_m1 (slot : Slot "str" name id) (ty : typeOf (.builtin id) = pure (.type "method_descriptor")) (rule : MtR X id r) (ho : AV X o ρ A (.str x)) (he : AV X e ρ A d1)
    (hr : ∀ v H, Rp X.K H v d1 → Rel X.K A H → ∀ Q : VK, (∀ u H', TS H H' → Rp X.K H' u d → Rel X.K A H' → Q u H') → r (.str x) [v] H Q)
    (hs : starEach [e] X.env = [(false, eval e X.env)] := by rfl) (hbase : attributeBase o name X.env (eval o X.env) = eval o X.env := by rfl) (hline : (apos.endLine == cpos.line) = true := by rfl) : AV X (.Call (.Attribute o name apos) [e] [] cpos) ρ A d := fun σ H s Q q =>
  tm_of (pe_m1 slot ty rule (pe_tm o) (pe_tm e) hs hbase hline) (ho σ H s _ fun v H1 t1 r1 l1 => ⟨⟨x, r1.str_of⟩, he σ H1 (s.mono t1 l1) _ fun u H2 t2 r2 l2 => by
    rw [r1.str_of]
    exact hr u H2 r2 l2 Q fun z H' t3 r3 l3 => q z H' ((t1.trans t2).trans t3) r3 l3⟩)
theorem ae_m1 (slot : Slot "str" name id) (ty : typeOf (.builtin id) = pure (.type "method_descriptor")) (rule : MtR X id r) (ho : AV X o ρ A (.str x)) (he : AV X e ρ A d1)
    (hr : ∀ v H, Rp X.K H v d1 → Rel X.K A H → ∀ Q : VK, (∀ u H' d A', TS H H' → Rp X.K H' u d → Rel X.K A' H' → k d A' → Q u H') → r (.str x) [v] H Q)
    (hs : starEach [e] X.env = [(false, eval e X.env)] := by rfl) (hbase : attributeBase o name X.env (eval o X.env) = eval o X.env := by rfl) (hline : (apos.endLine == cpos.line) = true := by rfl) : AE X (.Call (.Attribute o name apos) [e] [] cpos) ρ A k := fun σ H s Q q =>
  tm_of (pe_m1 slot ty rule (pe_tm o) (pe_tm e) hs hbase hline) (ho σ H s _ fun v H1 t1 r1 l1 => ⟨⟨x, r1.str_of⟩, he σ H1 (s.mono t1 l1) _ fun u H2 t2 r2 l2 => by
    rw [r1.str_of]
    exact hr u H2 r2 l2 Q fun z H' d A' t3 r3 l3 k3 => q z H' d A' ((t1.trans t2).trans t3) r3 l3 k3⟩)
theorem av_starts (ho : AV X o ρ A (.str x)) (he : AV X e ρ A (.str y)) (hs : starEach [e] X.env = [(false, eval e X.env)] := by rfl) (hbase : attributeBase o "startswith" X.env (eval o X.env) = eval o X.env := by rfl) (hline : (apos.endLine == cpos.line) = true := by rfl) :
    AV X (.Call (.Attribute o "startswith" apos) [e] [] cpos) ρ A (.bl (Txt.startswith x y)) :=
  av_m1 PySem.F.slot_str_startswith PySem.F.type_str_startswith mt_startswith ho he (fun v H r1 l Q q => by
    rw [r1.str_of]
    exact ⟨x, y, rfl, rfl, q _ H (TS.refl H) (.bl _) l⟩) hs hbase hline
theorem av_parts (ho : AV X o ρ A (.str x)) (he : AV X e ρ A (.str y)) (h0 : (y.length == 0) = false) (hz : x.length ≤ sizeLine) (hs : starEach [e] X.env = [(false, eval e X.env)] := by rfl) (hbase : attributeBase o "partition" X.env (eval o X.env) = eval o X.env := by rfl) (hline : (apos.endLine == cpos.line) = true := by rfl) :
    AV X (.Call (.Attribute o "partition" apos) [e] [] cpos) ρ A (.tup [.str (Txt.partition x y).1, .str (Txt.partition x y).2.1, .str (Txt.partition x y).2.2]) :=
  av_m1 PySem.F.slot_str_partition PySem.F.type_str_partition mt_partition ho he (fun v H r1 l Q q => by
    rw [r1.str_of]
    exact ⟨x, y, rfl, rfl, h0, hz, fun p hp => q _ _ (TS.new hp) (tup_ok (.cons (.str _) (.cons (.str _) (.cons (.str _) .nil))) hp) (l.newT hp)⟩) hs hbase hline
theorem rps_strs {K : Frag} {H : Hp} : ∀ ys : List Str, Rps K H (ys.map V.str) (ys.map D.str)
  | [] => .nil
  | y :: ys => .cons (.str y) (rps_strs ys)
theorem al_split (ho : AV X o ρ A (.str x)) (he : AV X e ρ A (.str y)) (h0 : (y.length == 0) = false) (hz : x.length + 2 ≤ sizeLine) (hs : starEach [e] X.env = [(false, eval e X.env)] := by rfl) (hbase : attributeBase o "split" X.env (eval o X.env) = eval o X.env := by rfl) (hline : (apos.endLine == cpos.line) = true := by rfl) :
    AL X (.Call (.Attribute o "split" apos) [e] [] cpos) ρ A ((Txt.split x y).map D.str) := fun k kq =>
  ae_m1 PySem.F.slot_str_split PySem.F.type_str_split mt_split ho he (fun v H r1 l Q q => by
    rw [r1.str_of]
    exact ⟨x, y, rfl, rfl, h0, hz, fun p hp => q _ _ _ _ (TS.new hp) (.ref p) (l.newL hp (rps_strs _)).2 (kq p (l.none hp))⟩) hs hbase hline
theorem av_split (ho : AV X o ρ A (.str x)) (he : AV X e ρ A (.str y)) (h0 : (y.length == 0) = false) (hz : x.length + 2 ≤ sizeLine) (hs : starEach [e] X.env = [(false, eval e X.env)] := by rfl) (hbase : attributeBase o "split" X.env (eval o X.env) = eval o X.env := by rfl) (hline : (apos.endLine == cpos.line) = true := by rfl) :
    AV X (.Call (.Attribute o "split" apos) [e] [] cpos) ρ A (.fz ((Txt.split x y).map D.str)) := (al_split ho he h0 hz hs hbase hline).av
theorem av_join {ys : List Str} (ho : AV X o ρ A (.str x)) (he : AV X e ρ A d1) (hl : IsL A d1 (ys.map D.str)) (hz : (ys.map (·.length)).sum + ys.length * x.length ≤ 16777216) (hs : starEach [e] X.env = [(false, eval e X.env)] := by rfl) (hbase : attributeBase o "join" X.env (eval o X.env) = eval o X.env := by rfl) (hline : (apos.endLine == cpos.line) = true := by rfl) :
    AV X (.Call (.Attribute o "join" apos) [e] [] cpos) ρ A (.str (Str.join x ys)) := by
  rw [← TL.join_eq]
  exact av_m1 PySem.F.slot_str_join PySem.F.type_str_join mt_join ho he (fun v H r1 l Q q => by
    obtain ⟨p, vs, rfl, h1, h2⟩ := hl.sq r1 l
    rw [h2.strs] at h1
    exact ⟨x, p, ys, rfl, rfl, .inl h1, hz, q _ H (TS.refl H) (.str _) l⟩) hs hbase hline
/-! a walk over a text -/
variable {tg : Expr} {kI : AH → (AH → Prop) → Nat → (Nat → D) → Prop}
theorem wk_str {K : Frag} {H0 : Hp} (x : Str) : Wk K H0 (Its x) (fun _ => True) x.cps.size (fun i => .str ⟨#[x.cps.getD i 0]⟩) where
  go := fun i H A h t r g => h
  yl := fun i H A v H' h t r g y => by
    obtain ⟨rfl, c, hc, rfl⟩ := y
    refine ⟨TS.refl _, r, ?_⟩
    have e : x.cps.getD i 0 = c := by rw [Array.getD_eq_getD_getElem?, hc]; rfl
    rw [e]
    exact .str _
  st := fun H A t r g => Nat.le_refl _
theorem ai_S (h : AV X a ρ A (.str x)) (q : kI A (fun _ => True) x.cps.size (fun i => .str ⟨#[x.cps.getD i 0]⟩)) : AI X tg a ρ A kI := fun σ H s R qq =>
  tmi_of (pi_str (pe_tm a)) (h σ H s _ fun v H1 t1 r1 l1 => ⟨x, r1.str_of, qq _ H1 A _ _ _ t1 l1 (wk_str x) q⟩)
end
end C7
namespace C7
open PySem PySem.Spec PyProof.Rows L2 TL
open NumText (AllDigits digitsVal)
theorem av_globS {X : Cx} {ρ : Ro} {A : AH} {n : Str} {i : Str} {pos : Pos} (hg : Gl X n) (h : ∃ t, X.mg n = some (.str i t)) (hd : (n == ("__debug__" : Str)) = false := by decide) : AV X (.Name n pos) ρ A (.str i) := by
  obtain ⟨t, ht⟩ := h
  exact av_glob hg ht (v := .str i) ⟨t, rfl⟩ (fun _ => .str i) hd
/-! ### several expressions, any of which may raise -/
def AEsx (X : Cx) (W : WX) (es : List Expr) (ρ : Ro) (A : AH) (xc : Value → AH → Prop) (k : List D → AH → Prop) : Prop := ∀ (σ : L2.St) (H : Hp), Sr X.K ρ A σ H → ∀ Q : List V → Hp → Prop, (∀ vs H' ds A', TS H H' → Rps X.K H' vs ds → Rel X.K A' H' → k ds A' → Q vs H') →
  (∀ c H' A', TS H H' → Rel X.K A' H' → xc c A' → W c none σ H') → TMA X es σ H Q
section
variable {X : Cx} {W : WX} {ρ : Ro} {A : AH} {E : AEnds} {e : Expr} {es : List Expr} {pos p0 : Pos} {d : D} {k : AK} {n : Str} {ct : Ct} {lv : Nat} {ds : List D} {xc : Value → AH → Prop} {ks : List D → AH → Prop}
theorem AEs.aesx (h : AEs X es ρ A ks) : AEsx X W es ρ A xc ks := fun σ H s Q q _ => h σ H s Q q
theorem aesx_nil (h : ks [] A) : AEsx X W [] ρ A xc ks := AEs.aesx (aes_nil h)
theorem aesx_cons (h : AEx X W e ρ A xc fun d A1 => AEsx X W es ρ A1 xc fun ds A2 => ks (d :: ds) A2) (hs : isStar e = false := by rfl) : AEsx X W (e :: es) ρ A xc ks := fun σ H s Q q hx =>
  tma_of (pa_cons (pe_tm e) (pa_tm es) (star_cons hs)) (h σ H s _ (fun v H1 d A1 t1 r1 l1 h1 => h1 σ H1 (s.mono t1 l1) _ (fun vs H2 ds A2 t2 r2 l2 h2 => q (v :: vs) H2 (d :: ds) A2 (t1.trans t2) (.cons (r1.mono t2) r2) l2 h2) fun c H' A' t l z => hx c H' A' (t1.trans t) l z) fun c H' A' t l z => hx c H' A' t l z)
theorem aex_tup {x1 : Nat} (h : AEsx X W es ρ A xc fun ds A1 => ds.length ≤ sizeLine ∧ k (.tup ds) A1) : AEx X W (.Tuple es x1 pos) ρ A xc k := fun σ H s Q q hx =>
  tm_of (pe_tup (pa_tm es)) (h σ H s _ (fun vs H1 ds A1 t1 r1 l1 h1 => ⟨by rw [r1.length]; exact h1.1, fun p hp => q (.ref p) _ (.tup ds) A1 (t1.trans (TS.new hp)) (tup_ok r1 hp) (l1.newT hp) h1.2⟩) hx)
theorem aex_callA (F : Fn X.prog X.w X.K X.mg X.base n lv ct) (tk : L2N.Takes X W) (hr : Room lv X.A) (hg : Gl X n) (h : AEsx X W (e :: es) ρ A xc fun ds A1 => ct ds A1 k xc)
    (hdb : (n == ("__debug__" : Str)) = false := by decide) (he : starEach (e :: es) X.env = (false, eval e X.env) :: starEach es X.env := by rfl) (hpl : (backTo pos (starEach es X.env)).any (·.1) = false := by rfl) :
    AEx X W (.Call (.Name n p0) (e :: es) [] pos) ρ A xc k := fun σ H s Q q hx => by
  obtain ⟨f, fd, ps, F, hm, hk, hb⟩ := F.ex
  refine tm_of (pe_callS (E := WE W) F hr hg hm hk hb (fun σ => L2N.passAt tk σ) (pa_tm (e :: es)) hdb he hpl) ?_
  refine h σ H s _ (fun vs H1 ds A1 t1 r1 l1 h1 => ?_) hx
  exact ⟨ds, A1, k, xc, r1, l1, h1, fun v H' d A' t2 r2 l2 k2 => q v H' d A' (t1.trans t2) r2 l2 k2, fun c H' A' t2 l2 k2 => hx c H' A' (t1.trans t2) l2 k2⟩
end
/-! ### whole numbers, written and read -/
def wl (i : Int) : List Nat := if i < 0 then 45 :: numL i.natAbs else numL i.natAbs
theorem tl_tx (i : Int) : tl (tx i) = wl i := by
  unfold tx wl
  cases i with
  | ofNat n =>
    rw [if_neg (show ¬ Int.ofNat n < 0 by have := Int.natCast_nonneg n; exact Int.not_lt.mpr this)]
    exact tl_num n
  | negSucc n =>
    rw [if_pos (by omega), tl_ofString]
    have h1 := tl_num (n + 1)
    rw [tl_ofString] at h1
    show (("-" ++ toString (n + 1)).toList).map Char.toNat = _
    rw [String.toList_append, List.map_append]
    show [45] ++ _ = 45 :: numL (n + 1)
    rw [← h1]
    rfl
def figs (l : List Nat) : List Nat := if l.head? = some 45 then l.tail else l
def okW (l : List Nat) : Prop := figs l ≠ [] ∧ (figs l).length ≤ 100 ∧ AllDigits (figs l) ∧ ((figs l).head? = some 48 → l = [48])
def valW (l : List Nat) : Int := if l.head? = some 45 then -((digitsVal l.tail : Nat) : Int) else ((digitsVal l : Nat) : Int)
theorem numL_head : ∀ n : Nat, n ≠ 0 → ∃ c r, numL n = c :: r ∧ c ≠ 48 ∧ 48 ≤ c ∧ c ≤ 57 := by
  intro n
  induction n using Nat.strongRecOn with
  | ind n ih =>
    intro h
    by_cases h10 : n < 10
    · rw [numL_lt h10]
      exact ⟨48 + n, [], rfl, by omega, by omega, by omega⟩
    · obtain ⟨c, r, e, h1⟩ := ih (n / 10) (by omega) (by omega)
      rw [numL_step (by omega), e]
      exact ⟨c, r ++ [48 + n % 10], rfl, h1⟩
theorem numL_zero : numL 0 = [48] := numL_lt (by decide)
theorem numL_cons (n : Nat) : ∃ c r, numL n = c :: r ∧ 48 ≤ c ∧ c ≤ 57 := by
  by_cases h : n = 0
  · subst h; exact ⟨48, [], numL_zero, by decide, by decide⟩
  · obtain ⟨c, r, e, h1⟩ := numL_head n h
    exact ⟨c, r, e, h1.2⟩
theorem figs_wl (i : Int) : figs (wl i) = numL i.natAbs := by
  unfold figs wl
  split
  · rw [if_pos (show (45 :: numL i.natAbs).head? = some 45 from rfl)]; rfl
  · obtain ⟨c, r, e, h1, h2⟩ := numL_cons i.natAbs
    rw [e, if_neg (by simp; omega)]
theorem valW_wl (i : Int) : valW (wl i) = i := by
  unfold valW wl
  split
  · rw [if_pos (show (45 :: numL i.natAbs).head? = some 45 from rfl)]
    show -((digitsVal (numL i.natAbs) : Nat) : Int) = i
    rw [numL_val]; omega
  · obtain ⟨c, r, e, h1, h2⟩ := numL_cons i.natAbs
    rw [if_neg (by rw [e]; simp; omega), numL_val]; omega
theorem okW_wl {i : Int} (h : i.natAbs < 10 ^ 100) : okW (wl i) := by
  unfold okW
  rw [figs_wl]
  refine ⟨numL_ne _, numL_len (by decide) h, numL_digits _, fun hh => ?_⟩
  by_cases h0 : i.natAbs = 0
  · have : i = 0 := by omega
    subst this
    exact numL_zero
  · obtain ⟨c, r, e, h1, _⟩ := numL_head _ h0
    rw [e] at hh
    exact absurd (Option.some.inj hh) h1
theorem wl_free {i : Int} {s : Nat} (h : s ≠ 45) (h2 : s < 48 ∨ 57 < s) : s ∉ wl i := by
  unfold wl
  split
  · exact fun hm => (List.mem_cons.mp hm).elim h (numL_free h2)
  · exact numL_free h2
theorem wl_len {i : Int} {m : Nat} (hm : 0 < m) (h : i.natAbs < 2 ^ m) : (wl i).length ≤ m + 1 := by
  have : (numL i.natAbs).length ≤ m := numL_len hm (Nat.lt_of_lt_of_le h (Nat.pow_le_pow_left (by decide) m))
  unfold wl
  split
  · rw [List.length_cons]; omega
  · omega
theorem log_lt {i : Int} {m : Nat} (h : i.natAbs < 2 ^ m) (hm : m ≤ 1920) (h0 : 0 < m) : i.natAbs.log2 < 1920 := by
  by_cases h1 : i.natAbs = 0
  · rw [h1]; decide
  · exact Nat.lt_of_lt_of_le ((Nat.log2_lt h1).mpr h) hm
/-- the value of a read number is what int tells -/
theorem int_ok {x : Str} (h : okW (tl x)) : intText? x = some (valW (tl x)) := by
  obtain ⟨h1, h2, h3, _⟩ := h
  have hl := len_tl x
  unfold figs at h1 h2 h3
  unfold valW
  by_cases hh : (tl x).head? = some 45
  · rw [if_pos hh] at h1 h2 h3 ⊢
    have e : tl x = 45 :: (tl x).tail := by
      cases hc : tl x with
      | nil => rw [hc] at hh; cases hh
      | cons c r => rw [hc] at hh; cases hh; rfl
    exact PySem.intText_neg e h3 h1 (by rw [hl, e, List.length_cons]; omega)
  · rw [if_neg hh] at h1 h2 h3 ⊢
    exact PySem.intText_digits h3 h1 (by rw [hl]; omega)
theorem okW_len {l : List Nat} (h : okW l) : l.length ≤ 101 := by
  have h2 := h.2.1
  unfold figs at h2
  split at h2
  · rw [List.length_tail] at h2; omega
  · omega
theorem digitsVal_lt : ∀ l : List Nat, AllDigits l → digitsVal l < 10 ^ l.length := by
  have key : ∀ (l : List Nat) (a : Nat), AllDigits l → l.foldl (fun acc c => acc * 10 + (c - 48)) a < (a + 1) * 10 ^ l.length := by
    intro l
    induction l with
    | nil => intro a _; simp
    | cons c l ih =>
      intro a h
      have hc := h c (List.mem_cons_self ..)
      have := ih (a * 10 + (c - 48)) fun d hd => h d (List.mem_cons_of_mem _ hd)
      rw [List.foldl_cons, List.length_cons, Nat.pow_succ]
      refine Nat.lt_of_lt_of_le this ?_
      rw [Nat.mul_comm (10 ^ l.length) 10, ← Nat.mul_assoc]
      exact Nat.mul_le_mul_right _ (by omega)
  intro l h
  have := key l 0 h
  unfold digitsVal
  omega
theorem valW_bd {l : List Nat} (h : okW l) : (valW l).natAbs < 2 ^ 340 := by
  obtain ⟨h1, h2, h3, _⟩ := h
  unfold figs at h1 h2 h3
  unfold valW
  have hp : (10 : Nat) ^ 100 < 2 ^ 340 := by decide
  by_cases hh : l.head? = some 45
  · rw [if_pos hh] at h1 h2 h3 ⊢
    have := digitsVal_lt _ h3
    have h5 : (10 : Nat) ^ l.tail.length ≤ 10 ^ 100 := Nat.pow_le_pow_right (by decide) h2
    omega
  · rw [if_neg hh] at h1 h2 h3 ⊢
    have := digitsVal_lt _ h3
    have h5 : (10 : Nat) ^ l.length ≤ 10 ^ 100 := Nat.pow_le_pow_right (by decide) h2
    omega
theorem starts_minus (x : Str) : Txt.startswith x "-" = decide ((tl x).head? = some 45) := by
  unfold Txt.startswith
  rw [StrLaws.subAt_eq]
  have hl := len_tl x
  have e : (("-" : Str)).cps.toList = [45] := rfl
  have e2 : (("-" : Str)).length = 1 := rfl
  rw [e, e2, hl]
  show (decide (0 + 1 ≤ (tl x).length) && (((tl x).drop 0).take 1 == [45])) = _
  cases tl x with
  | nil => rfl
  | cons c r =>
    by_cases hc : c = 45
    · subst hc; simp
    · simp [hc]
theorem tl_cut1 (x : Str) : tl (cutS x (some 1) none) = (tl x).tail := by
  show ((x.cps.toList.drop (HT.sIx x.length 0 (some 1))).take (HT.sIx x.length x.length none - HT.sIx x.length 0 (some 1))) = _
  have hl := len_tl x
  have h1 : HT.sIx x.length 0 (some ((1 : Nat) : Int)) = min 1 x.length := by rw [HT.sIx_nat]
  have h1' : HT.sIx x.length 0 (some (1 : Int)) = min 1 x.length := h1
  rw [h1', HT.sIx_none]
  show ((tl x).drop (min 1 x.length)).take (x.length - min 1 x.length) = _
  rw [hl]
  cases tl x with
  | nil => rfl
  | cons c r => simp
/-! ### a sign in a text -/
theorem first_sign (s : Nat) : ∀ l : List Nat, s ∈ l → ∃ a b, l = a ++ s :: b ∧ s ∉ a
  | [], h => nomatch h
  | c :: l, h => by
    by_cases hc : c = s
    · subst hc; exact ⟨[], l, rfl, fun h => nomatch h⟩
    · obtain ⟨a, b, e, h1⟩ := first_sign s l ((List.mem_cons.mp h).resolve_left fun e => hc e.symm)
      exact ⟨c :: a, b, by rw [e]; rfl, fun hm => (List.mem_cons.mp hm).elim (fun e => hc e.symm) h1⟩
theorem first_uniq {s : Nat} : ∀ {a a' b b' : List Nat}, a ++ s :: b = a' ++ s :: b' → s ∉ a → s ∉ a' → a = a' ∧ b = b'
  | [], [], _, _, h, _, _ => ⟨rfl, by injection h⟩
  | [], c :: a', _, _, h, _, h2 => by
    injection h with e _
    exact absurd (List.mem_cons.mpr (.inl e)) h2
  | c :: a, [], _, _, h, h1, _ => by
    injection h with e _
    exact absurd (List.mem_cons.mpr (.inl e.symm)) h1
  | c :: a, c' :: a', b, b', h, h1, h2 => by
    injection h with e h
    obtain ⟨e1, e2⟩ := first_uniq h (fun hm => h1 (List.mem_cons_of_mem _ hm)) (fun hm => h2 (List.mem_cons_of_mem _ hm))
    exact ⟨by rw [e, e1], e2⟩
/-! ### shares, points, curves as texts -/
def shT (q : Rat) : Str := if q.den = 1 then tx q.num else tx q.num ++ "/" ++ tx (q.den : Int)
def shl (q : Rat) : List Nat := if q.den = 1 then wl q.num else wl q.num ++ 47 :: wl (q.den : Int)
theorem tl_shT (q : Rat) : tl (shT q) = shl q := by
  unfold shT shl
  split
  · exact tl_tx _
  · rw [tl_append, tl_append, tl_tx, tl_tx, List.append_assoc]; rfl
def ptT (p : Pt) : Str := shT p.1 ++ "," ++ shT p.2
def ptl (p : Pt) : List Nat := shl p.1 ++ 44 :: shl p.2
theorem tl_ptT (p : Pt) : tl (ptT p) = ptl p := by
  unfold ptT ptl
  rw [tl_append, tl_append, tl_shT, tl_shT, List.append_assoc]; rfl
def cvT (row : List Pt) : Str := Str.join " " (row.map ptT)
def paT (cs : List (List Pt)) : Str := Str.join " | " (cs.map cvT)
def rdS (l : List Nat) (q : Rat) : Prop := (47 ∉ l ∧ okW l ∧ q.num = valW l ∧ q.den = 1) ∨ ∃ a b, l = a ++ 47 :: b ∧ 47 ∉ a ∧ okW a ∧ okW b ∧ 2 ≤ valW b ∧ q.num = valW a ∧ (q.den : Int) = valW b
def rdP (l : List Nat) (p : Pt) : Prop := ∃ a b, l = a ++ 44 :: b ∧ 44 ∉ a ∧ rdS a p.1 ∧ rdS b p.2
/-- a share of at most a hundred figures above and below -/
def Fg (q : Rat) : Prop := q.num.natAbs < 10 ^ 100 ∧ q.den < 10 ^ 100
def FgP (p : Pt) : Prop := Fg p.1 ∧ Fg p.2
theorem shl_free {q : Rat} {s : Nat} (h : s ≠ 45) (h1 : s ≠ 47) (h2 : s < 48 ∨ 57 < s) : s ∉ shl q := by
  unfold shl
  split
  · exact wl_free h h2
  · intro hm
    rw [List.mem_append, List.mem_cons] at hm
    rcases hm with hm | hm | hm
    · exact wl_free h h2 hm
    · exact h1 hm
    · exact wl_free h h2 hm
theorem ptl_free {p : Pt} {s : Nat} (h : s ≠ 45) (h1 : s ≠ 47) (h3 : s ≠ 44) (h2 : s < 48 ∨ 57 < s) : s ∉ ptl p := by
  unfold ptl
  intro hm
  rw [List.mem_append, List.mem_cons] at hm
  rcases hm with hm | hm | hm
  · exact shl_free h h1 h2 hm
  · exact h3 hm
  · exact shl_free h h1 h2 hm
theorem rd_shl {q : Rat} (h : Fg q) : rdS (shl q) q := by
  unfold shl
  have hd := q.den_pos
  split
  · rename_i hq
    exact .inl ⟨wl_free (by decide) (by decide), okW_wl h.1, (valW_wl _).symm, hq⟩
  · rename_i hq
    exact .inr ⟨_, _, rfl, wl_free (by decide) (by decide), okW_wl h.1, okW_wl (by rw [Int.natAbs_natCast]; exact h.2), by rw [valW_wl]; omega, (valW_wl _).symm, (valW_wl _).symm⟩
theorem rd_ptl {p : Pt} (h : FgP p) : rdP (ptl p) p := ⟨_, _, rfl, shl_free (by decide) (by decide) (by decide), rd_shl h.1, rd_shl h.2⟩
theorem rdS_one {l : List Nat} {q r : Rat} (h : rdS l q) (h' : rdS l r) : q = r := by
  rcases h with ⟨h1, h2, h3, h4⟩ | ⟨a, b, rfl, h1, h2, h3, h4, h5, h6⟩
  · rcases h' with ⟨g1, g2, g3, g4⟩ | ⟨a', b', rfl, _⟩
    · exact rat_ext (h3.trans g3.symm) (h4.trans g4.symm)
    · exact absurd (List.mem_append_right _ (List.mem_cons_self ..)) h1
  · rcases h' with ⟨g1, _⟩ | ⟨a', b', e, g1, g2, g3, g4, g5, g6⟩
    · exact absurd (List.mem_append_right _ (List.mem_cons_self ..)) g1
    · obtain ⟨rfl, rfl⟩ := first_uniq e h1 g1
      exact rat_ext (h5.trans g5.symm) (by have := h6.trans g6.symm; omega)
theorem shT_len {q : Rat} {m : Nat} (hm : 0 < m) (h : Sz m q) : (shT q).length ≤ 2 * m + 3 := by
  rw [len_tl, tl_shT]
  unfold shl
  have h1 := wl_len hm h.num
  have h2 := wl_len hm h.den
  split
  · omega
  · rw [List.length_append, List.length_cons]; omega
theorem ptT_len {p : Pt} {m : Nat} (hm : 0 < m) (h : SzP m p) : (ptT p).length ≤ 4 * m + 7 := by
  unfold ptT
  have h1 := shT_len hm h.1
  have h2 := shT_len hm h.2
  rw [len_tl] at h1 h2 ⊢
  rw [tl_append, tl_append, List.length_append, List.length_append]
  have : (tl (",") : List Nat).length = 1 := rfl
  omega
theorem sum_len {xs : List Str} {b : Nat} (h : ∀ x ∈ xs, x.length ≤ b) : (xs.map (·.length)).sum ≤ xs.length * b := by
  induction xs with
  | nil => simp
  | cons x xs ih =>
    rw [List.map_cons, List.sum_cons, List.length_cons, Nat.succ_mul]
    have h1 := h x (List.mem_cons_self ..)
    have h2 := ih fun y hy => h y (List.mem_cons_of_mem _ hy)
    omega
theorem joinL_len (S : List Nat) : ∀ xs : List (List Nat), (joinL S xs).length ≤ (xs.map List.length).sum + xs.length * S.length
  | [] => by simp [joinL]
  | [x] => by simp [joinL]
  | x :: y :: r => by
    have ih := joinL_len S (y :: r)
    simp only [joinL, List.length_append, List.map_cons, List.sum_cons, List.length_cons, Nat.succ_mul] at ih ⊢
    omega
theorem join_len {y : Str} {xs : List Str} {b : Nat} (h : ∀ x ∈ xs, x.length ≤ b) : (Str.join y xs).length ≤ xs.length * (b + y.length) := by
  rw [len_tl, tl_join]
  refine Nat.le_trans (joinL_len _ _) ?_
  have h1 := sum_len h
  have e1 : (xs.map tl).map List.length = xs.map (·.length) := by rw [List.map_map]; exact List.map_congr_left fun x _ => (len_tl x).symm
  rw [e1, List.length_map, ← len_tl y, Nat.mul_add]
  omega
theorem cvT_len {row : List Pt} {m : Nat} (hm : 0 < m) (h : ∀ p ∈ row, SzP m p) : (cvT row).length ≤ row.length * (4 * m + 8) := by
  unfold cvT
  have := join_len (y := " ") (xs := row.map ptT) (b := 4 * m + 7) fun x hx => by
    obtain ⟨p, hp, rfl⟩ := List.mem_map.mp hx
    exact ptT_len hm (h p hp)
  rw [List.length_map] at this
  exact this
theorem all256 {y : Str} {l : List Nat} (h : tl y = l) (hl : l.all (· < 256) = true) : y.cps.all (· < 256) = true := by
  rw [← Array.all_toList]
  show (tl y).all _ = true
  rw [h]; exact hl
theorem split_cv {row : List Pt} (h : row ≠ []) : Txt.split (cvT row) " " = row.map ptT := by
  unfold cvT
  rw [← join_eq]
  refine split_join (y := " ") (s := 32) (S := []) rfl (all256 (l := [32]) rfl rfl) (by simpa using h) fun p hp => ?_
  obtain ⟨q, _, rfl⟩ := List.mem_map.mp hp
  rw [tl_ptT]
  exact ptl_free (by decide) (by decide) (by decide) (by decide)
theorem joinL_free {s : Nat} {S : List Nat} (hS : s ∉ S) : ∀ xs : List (List Nat), (∀ x ∈ xs, s ∉ x) → s ∉ joinL S xs
  | [], _ => fun h => nomatch h
  | [x], h => by simpa [joinL] using h x (List.mem_cons_self ..)
  | x :: y :: r, h => by
    have ih := joinL_free hS (y :: r) fun z hz => h z (List.mem_cons_of_mem _ hz)
    simp only [joinL, List.mem_append, not_or]
    exact ⟨h x (List.mem_cons_self ..), hS, ih⟩
theorem cvT_free (row : List Pt) : 124 ∉ tl (cvT row) := by
  unfold cvT
  rw [tl_join]
  refine joinL_free (by decide) _ fun x hx => ?_
  rw [List.map_map] at hx
  obtain ⟨q, _, rfl⟩ := List.mem_map.mp hx
  show 124 ∉ tl (ptT q)
  rw [tl_ptT]
  exact ptl_free (by decide) (by decide) (by decide) (by decide)
/-- no stroke in p: the separator does not begin in it -/
theorem pre_stroke {p q : List Nat} (h : 124 ∉ p) (hq : q = [] ∨ ∃ r, q = 32 :: r) : ∀ i, i < p.length → pre [32, 124, 32] ((p ++ q).drop i) = false := by
  intro i hi
  rw [List.drop_append_of_le_length (Nat.le_of_lt hi), List.drop_eq_getElem_cons hi]
  cases hp : pre [32, 124, 32] (p[i] :: List.drop (i + 1) p ++ q) with
  | false => rfl
  | true =>
    exfalso
    have e : ((p[i] :: List.drop (i + 1) p) ++ q).take 3 = [32, 124, 32] := eq_of_beq hp
    have e1 : (List.drop (i + 1) p ++ q).head? = some 124 := by
      rw [List.cons_append, List.take_succ_cons] at e
      injection e with _ e
      cases hc : List.drop (i + 1) p ++ q with
      | nil => rw [hc] at e; cases e
      | cons c r =>
        rw [hc] at e
        injection e with e _
        rw [e]; rfl
    cases hd : List.drop (i + 1) p with
    | nil =>
      rw [hd, List.nil_append] at e1
      rcases hq with rfl | ⟨r, rfl⟩
      · cases e1
      · cases e1
    | cons c r =>
      rw [hd, List.cons_append] at e1
      have : c ∈ p := List.mem_of_mem_drop (by rw [hd]; exact List.mem_cons_self ..)
      cases e1
      exact h this
theorem spl_strokes : ∀ {parts : List (List Nat)}, parts ≠ [] → (∀ p ∈ parts, 124 ∉ p) → spl [32, 124, 32] 0 [] (joinL [32, 124, 32] parts) = parts
  | [], h, _ => absurd rfl h
  | [p], _, h => by
    show spl [32, 124, 32] 0 [] p = [p]
    rw [spl_last fun i hi => by
      have := pre_stroke (p := p) (q := []) (h p (List.mem_cons_self ..)) (.inl rfl) i hi
      rw [List.append_nil] at this
      exact this]
    rfl
  | p :: q :: r, _, h => by
    have ih := spl_strokes (parts := q :: r) (by simp) fun z hz => h z (List.mem_cons_of_mem _ hz)
    show spl [32, 124, 32] 0 [] (p ++ ([32, 124, 32] ++ joinL [32, 124, 32] (q :: r))) = _
    rw [spl_part (by simp) (pre_stroke (h p (List.mem_cons_self ..)) (.inr ⟨_, rfl⟩)), ih]
    rfl
theorem split_pa {cs : List (List Pt)} (h : cs ≠ []) : Txt.split (paT cs) " | " = cs.map cvT := by
  refine map_tl_inj ?_
  rw [split_spl _ _ (by decide) (kind_ok (all256 (l := [32, 124, 32]) rfl rfl))]
  unfold paT
  rw [tl_join]
  refine spl_strokes (by simpa using h) fun p hp => ?_
  obtain ⟨x, hx, rfl⟩ := List.mem_map.mp hp
  obtain ⟨row, _, rfl⟩ := List.mem_map.mp hx
  exact cvT_free row
end C7
namespace C7
open PySem PySem.Spec PyProof.Rows L2
/-! ### a list comprehension whose element, a call, may raise -/
abbrev bx (X : Cx) (s : Shared) (H : Hp) (scope : Scope) (ce : Env) (fp : List Addr) (xe : Value → Shared → Prop) : Cx := (X.blk s H scope ce fp).wish xe
theorem ff_base {h B B' : Heap} (k : ∀ b, B.get? b = none → B'.get? b = none) : ∀ {l : List Env}, h.FunFrames B l → h.FunFrames B' l
  | [], _ => trivial
  | _ :: _, ⟨a, ⟨L, o, f, n, r⟩, t⟩ => ⟨a, ⟨L, o, f, k L n, r⟩, ff_base k t⟩
theorem hide_none {h : Heap} {c b : Addr} (e : h.get? b = none) : (PySem.W.hideAll h [c]).get? b = none := by
  cases q : (PySem.W.hideAll h [c]).get? b with
  | none => rfl
  | some o => rw [PySem.W.of_hideAll _ q] at e; cases e
theorem hide_ne {h : Heap} {c b : Addr} {o : Obj} (e : (PySem.W.hideAll h [c]).get? b = some o) : b ≠ c := fun z => by
  rw [z, PySem.W.hideAll_none [c] (by simp)] at e
  cases e
section
variable {X : Cx} {W : WX} {pins : List (Addr × Obj)} {σ : L2.St} {H3 : Hp} {s3 : Shared} {fp : List Addr} {ce : Env} {scope : Scope} {xe : Value → Shared → Prop}
/-- what a call in the element let out: noted in the def's frame, the block let go, on its way -/
theorem lc_flies (hst : X.stack = X.env :: X.outer) (hf : X.env.frame = some X.env.locals) (tk : L2N.Takes X W) (I3 : Inv X pins σ H3 s3) (f3 : ∀ b ∈ fp, FpOk X pins H3 b) (hC : ce.locals = s3.heap.objs.size) (hcf : ce.frame = X.env.frame)
    {pn : List (Addr × Obj)} {τ : L2.St} {Hy : Hp} {s s' : Shared} {u : Value} (J0 : Inv (bx X s3 H3 scope ce fp xe) pn τ Hy s) (c : L2N.CX X.prog X.w X.stack Hy s (fun cl d H' => W cl d σ H') u s') :
    notedBy (model X.prog X.w) X.A ce (CompFails (model X.prog X.w) X.A X.xe ce) u s' := by
  obtain ⟨a1, B1, G1, c1, d1, e1, fl1, _⟩ := id c
  obtain ⟨a, B, sI, pn', τ', H', cls, d, e2, J, nb, up, sky, na, os, ag, w⟩ := L2N.XE.of_call (W := fun cl d _ H' => W cl d σ H') J0 (fun _ _ _ h => h) c
  have ea : a1 = a := by
    rw [e1] at e2
    cases e2
    rfl
  subst ea
  subst e2
  obtain ⟨_, _, _, oe1, vs1, T1, oT1, ts1, he1, _, hd1, hv1, _, _, hT1, ht1, hx1⟩ := fl1
  have fl : HandSPX.FlyingZ B X.stack a1 (L2N.Zn cls d) s'.heap := by
    rcases sky with ⟨_, _, _, oe, vs, he, _, hd, h1⟩ | fl | ⟨_, _, _, oe, vs, T, oT, ts, he, _, hd, h1, _, _, hT, hdT, h3⟩
    · rw [he1] at he
      cases he
      rw [hd1] at hd
      cases hd
      rw [hv1] at h1
      cases h1
    · exact fl
    · rw [he1] at he
      cases he
      rw [hd1] at hd
      cases hd
      rw [hv1] at h1
      cases h1
      rw [hT1] at hT
      cases hT
      rw [ht1] at hdT
      cases hdT
      rw [hx1] at h3
      cases h3
  rw [hst] at fl
  show wpAny _ X.A (noteFrame (.ref a1) ce) _ _ s'
  rw [noteFrame_env _ hcf]
  refine PXN.looks_onZ L2N.Zn.steady (by rw [I3.ok.frames, hst]) hf fl fun h1 hh up1 => ?_
  obtain ⟨m, hn, _⟩ := J.loc
  have hn : sI.heap.Ns ce.locals m := hn
  have hn1 : h1.Ns ce.locals m := hn.upToSlots (up.trans up1)
  refine ⟨m, hn1, fun h2 m2 hn2 sb => ?_⟩
  have sb : Heap.SameBut ce.locals h1 h2 := sb
  obtain ⟨k1, k2, k3, oe, vs, T, oT, ts, he, hz, hd, hv, nT, nTe, hT, hdT, hts⟩ := hh
  obtain ⟨oL, es, ep, hoL, hdL, _⟩ := id hn1
  have neE : a1 ≠ ce.locals := fun z => by
    rw [z, hoL] at he
    cases he
    rw [hdL] at hd
    cases hd
  have neT : T ≠ ce.locals := fun z => by
    rw [z, hoL] at hT
    cases hT
    rw [hdL] at hdT
    cases hdT
  have held : HandSPX.HeldZ (PySem.W.hideAll B [ce.locals]) (X.env :: X.outer) a1 (L2N.Zn cls d) X.env.locals h2 :=
    ⟨fun b o e => (sb.2 b (hide_ne e)).trans (k1 b o (PySem.W.of_hideAll _ e)), hide_none k2, ff_base (fun _ => hide_none) (Heap.FunFrames.sameBut sb hn2 k3),
      oe, vs, T, oT, ts, (sb.2 _ neE).trans he, hz, hd, hv, hide_none nT, nTe, (sb.2 _ neT).trans hT, hdT, hts⟩
  have I7 : Inv X pins σ H' sI := I3.call' (ch := fp) J.os J.base J.hok J.bare fun b hb => let ⟨_, x2, _, x4, x5, x6⟩ := f3 b hb; ⟨x4, x2, x5, x6⟩
  obtain ⟨f0, f1, _, f4, f5, f6⟩ := I3.fpOk (b := ce.locals) (H' := H') (Nat.le_of_eq hC.symm) J.free
  have JX := I7.turned (t' := sI.toks) (h' := PySem.W.hideAll sI.heap [ce.locals]) (fun b o hb e => PySem.W.hideAll_get _ e (by simpa using hb)) f0 f1 f4 f5 f6
  have e2' : h2.get? a1 = some oe := (sb.2 _ neE).trans he
  unfold PySem.passOn
  refine wpAny_bind (wpAny_field e2' hd hv ?_)
  rw [if_neg (show ¬ ((Value.ref T == Value.none) = true) from by simp), hcf, hf]
  refine wpAny_bind (HandSPX.setFlight_onZ held fun h4 hh4 up4 => wpAny_throw (tk _ _ ?_))
  refine ⟨a1, PySem.W.hideAll B [ce.locals], _, pins, σ, H', cls, d, rfl, JX, fun b o e hb => ?_, fun b o e hnf => ?_, .inr (.inr (by rw [hst]; exact hh4)), na, os, ag, w⟩
  · exact PySem.W.hideAll_get _ (nb b o (PySem.W.of_hideAll _ e) hb) (by simpa using hide_ne e)
  · obtain ⟨sl, e1⟩ := (up.trans up1) b o (PySem.W.of_hideAll _ e) hnf
    exact up4 b _ ((sb.2 b (hide_ne e)).trans e1) hnf |>.imp fun _ x => x
/-- [f(..) for tg in iter], the call may raise -/
theorem pe_lcX {elt tg iter : Expr} {own : List (Str × Nat)} {pos : Pos} {wi : TI} {g : TG} {te : L2.St → TE} (hst : X.stack = X.env :: X.outer) (hf : X.env.frame = some X.env.locals) (hc : X.calm = true) (hN : X.N.Nodup) (tk : L2N.Takes X W) (hi : PI X tg iter wi) (ok : BlkOk X.N X.env.scope scope own)
    (hg : ∀ (s : Shared) (H : Hp) (C : Addr) (cl : List (Str × Addr)) (fp : List Addr) (xe : Value → Shared → Prop), PG (bx X s H scope (compEnvC scope cl C X.env) fp xe) tg g)
    (he : ∀ (σ : L2.St) (s : Shared) (H : Hp) (C : Addr) (cl : List (Str × Addr)) (fp : List Addr) (xe : Value → Shared → Prop), (∀ τ, PassesAt (L2N.CX X.prog X.w) (bx X s H scope (compEnvC scope cl C X.env) fp xe) τ (fun c d H' => W c d σ H')) → PE (bx X s H scope (compEnvC scope cl C X.env) fp xe) elt (te σ))
    (hs : ∀ x, foldedSetIterable iter X.env x = pure x := by intro _; rfl) :
    PE X (.ListComp elt [⟨tg, iter, [], 0⟩] scope pos) (fun σ H Q => tLc wi g tYes (te σ) (own.map (·.2)) σ H Q) := by
  refine ⟨fun pins s σ H Q I h => ?_⟩
  have caught : ∀ y ∈ scope.names, y.2 = .free → ∃ c, X.env.cells.lookup y.1 = some c := fun y hy e => (ok.free y hy e).elim (fun k => I.ok.has _ (.inl k)) fun k => I.ok.has _ (.inr k)
  rw [eval_ListComp]
  refine comprehension_at (use := none) rfl hs (closure_ok caught) ok.kind (fun y hy e => (ok.uniq y hy).trans (by rw [e])) (thn (hi.run pins s σ H _ I h) fun xv sa ha => thn ha fun itv sb hb => ?_)
  obtain ⟨p, fp, stand, J, G2, ep, K2, T, at0, away, q⟩ := hb
  subst ep
  refine wpAny_newObj_type (newEnv_comp ?_) (by show 0 ≤ sizeLine; decide)
  generalize hD : sb.heap.objs.size = D
  obtain ⟨M, ⟨m0, w0⟩, turn⟩ := q D (K2.hok.fresh (Nat.le_of_eq hD))
  generalize hsc : ({ sb with heap := sb.heap.push { cls := .type "list", data := .seq ([] : List Value).toArray } } : Shared) = sc
  have hsc' : sc.heap = sb.heap.push { cls := .type "list", data := .seq ([] : List Value).toArray } := by rw [← hsc]
  have K3 : Inv X pins σ (upd G2 D (.lst [])) sc := by
    rw [← hsc]
    exact K2.laid (t' := sb.toks) (fun b o e => Heap.get?_push_of_some _ e) (Nat.le_of_eq hD) ⟨Nat.zero_le _, [], 0, .nil, by rw [← hD]; exact Heap.get?_push_size _ rfl⟩
  have small : ∀ b ∈ fp, b < sb.heap.objs.size := fun b hb => let ⟨_, e, _⟩ := T.obj _ _ at0 b hb; Heap.lt_size e
  have f3 : ∀ b ∈ fp, FpOk X pins (upd G2 D (.lst [])) b := fun b hb => ⟨by rw [upd_ne (by rw [← hD]; exact Nat.ne_of_lt (small b hb))]; exact (away b hb).1, (away b hb).2⟩
  have at3 : stand 0 sc.heap := T.keep _ _ _ at0 fun b _ o e => by rw [hsc']; exact Heap.get?_push_of_some _ e
  have K4 := block_start K3 ok hN fun b hb => ⟨f3 b hb, Nat.lt_of_lt_of_le (small b hb) (by rw [hsc', Heap.size_push]; exact Nat.le_succ _)⟩
  generalize hH3 : upd G2 D (.lst []) = H3 at K3 K4 w0 f3
  generalize hcl : cellsFrom (sc.heap.objs.size + 1) scope.names (cloFrom X.env.cells scope.names []) = cl at K4
  have hsz : sc.heap.objs.size = (compEnvC scope cl sc.heap.objs.size X.env).locals := rfl
  have pe := he σ sc H3 sc.heap.objs.size cl fp (notedBy (model X.prog X.w) X.A (compEnvC scope cl sc.heap.objs.size X.env) (CompFails (model X.prog X.w) X.A X.xe (compEnvC scope cl sc.heap.objs.size X.env)))
    fun τ pn Hy s1 u s2 J0 c => lc_flies (ce := compEnvC scope cl sc.heap.objs.size X.env) hst hf tk K3 f3 rfl rfl J0 c
  have pg := hg sc H3 sc.heap.objs.size cl fp (notedBy (model X.prog X.w) X.A (compEnvC scope cl sc.heap.objs.size X.env) (CompFails (model X.prog X.w) X.A X.xe (compEnvC scope cl sc.heap.objs.size X.env)))
  show codeAny _ _ (.compStart (.ListComp elt [⟨tg, iter, [], 0⟩] scope pos) 0 (.ref p) (.ref D) (compEnvC scope cl sc.heap.objs.size X.env))
    (compEnds (model X.prog X.w) X.A X.xe none (EP X pins σ Q) (.ref D) (compEnvC scope cl sc.heap.objs.size X.env)) { sc with heap := pushCells (sc.heap.push { cls := .type "dict", data := .dict #[] }) scope.names }
  generalize hce : compEnvC scope cl sc.heap.objs.size X.env = ce at K4 pe pg hsz ⊢
  generalize hxe : notedBy (model X.prog X.w) X.A ce (CompFails (model X.prog X.w) X.A X.xe ce) = xe at pe pg
  have free3 : ∀ b ∈ fp, H3 b = none := fun b hb => (f3 b hb).1
  generalize hs0 : ({ sc with heap := pushCells (sc.heap.push { cls := .type "dict", data := .dict #[] }) scope.names } : Shared) = s0 at K4 ⊢
  have at4 : stand 0 s0.heap := T.keep _ _ _ at3 fun b _ o e => by rw [← hs0]; exact pushCells_keeps _ _ _ _ (Heap.get?_push_of_some _ e)
  have K5 : Inv (bx X sc H3 scope ce fp xe) [] (wipe σ (own.map (·.2))) H3 s0 := ⟨K4.ok.wish _, K4.os, K4.bare, K4.base, K4.loc, K4.cell, K4.free, K4.freeC, K4.pin, K4.hok, K4.len⟩
  have inBlock : ∀ {τ : L2.St} {G : Hp} {t : Shared}, Inv (bx X sc H3 scope ce fp xe) [] τ G t → (∀ b ∈ fp, G b = none) → ∀ b ∈ fp, FpOk (bx X sc H3 scope ce fp xe) [] G b := fun {τ G t} K n b hb =>
    ⟨n b hb, (K.ok.exf b hb).1, K.ok.exfs b hb, .inl hb, fun x c e => (K.ok.exf b hb).2 x c e, fun z hz => absurd (show z ∈ ([] : List (Addr × Obj)) ++ [] from hz) (by simp)⟩
  have loop : codeAny (model X.prog X.w) X.A (.compLoop (.ListComp elt [⟨tg, iter, [], 0⟩] scope pos) 0 (.ref p) (.ref D) ce) (compEnds (model X.prog X.w) X.A X.xe none (EP X pins σ Q) (.ref D) ce) s0 := by
    refine compLoop_any (fun n t => ∃ i G, Inv (bx X sc H3 scope ce fp xe) [] (wipe σ (own.map (·.2))) G t ∧ stand i t.heap ∧ (∀ b ∈ fp, G b = none) ∧ M i n G) ?_ m0 ⟨0, H3, K5, at4, free3, w0⟩
    rintro n t5 ⟨i, G5, K5, at5, n5, w5⟩
    have raised : (notedBy (model X.prog X.w) X.A ce fun e s' => compEnds (model X.prog X.w) X.A X.xe none (EP X pins σ Q) (.ref D) ce (.error e) s') = xe := by
      rw [← hxe]
      rfl
    rw [raised]
    rcases turn i n G5 w5 with ⟨stop, fin⟩ | ⟨more, Nx, hNx, step⟩
    · refine thnF (T.done (bx X sc H3 scope ce fp xe) rfl rfl rfl hc i [] t5 _ G5 (fun _ _ => False) K5 (inBlock K5 n5) at5 stop) fun r t6 ⟨hr, K6⟩ => ?_
      subst hr
      have K7 : Inv X pins σ G5 t6 := K3.call' (ch := fp) K6.os K6.base K6.hok K6.bare fun b hb => let ⟨_, x2, _, x4, x5, x6⟩ := f3 b hb; ⟨x4, x2, x5, x6⟩
      obtain ⟨m, hn, _⟩ := K6.loc
      obtain ⟨g0, g1, _, g4, g5, g6⟩ := K3.fpOk (b := ce.locals) (H' := G5) (Nat.le_of_eq hsz) K6.free
      exact ⟨m, hn, fun h2 sm => ⟨.ref D, G5, K7.turned (t' := t6.toks) (fun b o hb e => (sm.2 b hb).trans e) g0 g1 g4 g5 g6, rfl, fin⟩⟩
    · refine thnF (T.item (bx X sc H3 scope ce fp xe) rfl rfl rfl hc i [] t5 _ G5 (fun _ _ => False) K5 (inBlock K5 n5) at5 more) fun r t6 ⟨u, hr, h6⟩ => ?_
      subst hr
      refine thnF h6 fun _ t7 ⟨x, G7, K7, r7, y7, at7, n7⟩ => ?_
      refine thn (pg.run _ t7 _ G7 x u _ (K7.pinned (inBlock K7 n7) (T.obj _ _ at7)) r7 (step x G7 y7)) fun _ t8 ⟨τ8, G8, K8, hw8, q8⟩ => ?_
      refine thn ((pts_nil (X := bx X sc H3 scope ce fp xe)).run _ t8 τ8 G8 _ K8 q8) fun b t9 ⟨G9, K9, q9⟩ => ?_
      have behind : ∀ {t : Shared} {G : Hp}, Inv (bx X sc H3 scope ce fp xe) ([] ++ pinsAt fp t7.heap) τ8 G t → Nx G → ∃ m, m < n ∧ ∃ i G, Inv (bx X sc H3 scope ce fp xe) [] (wipe σ (own.map (·.2))) G t ∧ stand i t.heap ∧ (∀ b ∈ fp, G b = none) ∧ M i m G := fun {t G} K nx => by
        obtain ⟨m', hm, w'⟩ := hNx G nx
        have held : ∀ b ∈ fp, ∀ o, t7.heap.get? b = some o → t.heap.get? b = some o ∧ G b = none := fun b hb o e =>
          have z := K.pin (b, o) (List.mem_append_right _ (List.mem_append_right _ (mem_pinsAt hb e)))
          And.intro z.1 z.2.1
        refine ⟨m', hm, i + 1, G, (K.unpinned (pins := [])).weak (by rw [← hw8, wipe_length]) (fun j v e => (wipe_some (hw8 ▸ e)).1), T.keep _ _ _ at7 fun b hb o e => (held b hb o e).1, fun b hb => ?_, w'⟩
        obtain ⟨o, e, _⟩ := T.obj _ _ at7 b hb
        exact (held b hb o e).2
      cases b with
      | false =>
        rw [if_neg Bool.false_ne_true] at q9 ⊢
        exact behind K9 q9
      | true =>
        rw [if_pos rfl] at q9 ⊢
        refine thn (pe.run _ t9 τ8 G9 _ K9 q9) fun z t10 ⟨yv, G10, K10, r10, acc, hD10, hz10, nx⟩ => ?_
        exact app_ok (X := bx X sc H3 scope ce fp xe) K10 hD10 hz10 r10 fun t11 K11 => behind K11 nx
  exact codeAny_compStart_list loop (T.self X.A 0 _ _ _ at4 loop)
end
/-! ### the rules -/
def blkEX (X : Cx) (W : WX) (σ : L2.St) (scope : Scope) (e : Expr) : TE := fun τ H Q => ∀ (s : Shared) (H0 : Hp) (C : Addr) (cl : List (Str × Addr)) (fp : List Addr) (xe : Value → Shared → Prop),
  (∀ υ, PassesAt (L2N.CX X.prog X.w) (bx X s H0 scope (compEnvC scope cl C X.env) fp xe) υ (fun c d H' => W c d σ H')) → TM (bx X s H0 scope (compEnvC scope cl C X.env) fp xe) e τ H Q
def blkGX (X : Cx) (scope : Scope) (e : Expr) : TG := fun v τ H Q => ∀ (s : Shared) (H0 : Hp) (C : Addr) (cl : List (Str × Addr)) (fp : List Addr) (xe : Value → Shared → Prop), TMG (bx X s H0 scope (compEnvC scope cl C X.env) fp xe) e v τ H Q
/-- an element that may raise -/
def AEy (Y : Cx) (e : Expr) (ρ : Ro) (A : AH) (xc : Value → AH → Prop) (k : AK) : Prop := ∀ V : Value → Option Addr → Hp → Prop, (∀ τ, PassesAt (L2N.CX Y.prog Y.w) Y τ V) → ∀ (σ : L2.St) (H : Hp), Sr Y.K ρ A σ H → ∀ Q : VK,
  (∀ v H' d A', TS H H' → Rp Y.K H' v d → Rel Y.K A' H' → k d A' → Q v H') → (∀ c H' A', TS H H' → Rel Y.K A' H' → xc c A' → V c none H') → TM Y e σ H Q
section
variable {Y X : Cx} {W : WX} {ρ : Ro} {A : AH} {e : Expr} {es : List Expr} {pos p0 : Pos} {k : AK} {n : Str} {ct : Ct} {lv : Nat} {xc : Value → AH → Prop}
theorem AE.aey (h : AE Y e ρ A k) : AEy Y e ρ A xc k := fun _ _ σ H s Q q _ => h σ H s Q q
theorem aey_call (F : Fn Y.prog Y.w Y.K Y.mg Y.base n lv ct) (hr : Room lv Y.A) (hg : Gl Y n) (h : AEs Y (e :: es) ρ A fun ds A1 => ct ds A1 k xc)
    (hdb : (n == ("__debug__" : Str)) = false := by decide) (he : starEach (e :: es) Y.env = (false, eval e Y.env) :: starEach es Y.env := by rfl) (hpl : (backTo pos (starEach es Y.env)).any (·.1) = false := by rfl) :
    AEy Y (.Call (.Name n p0) (e :: es) [] pos) ρ A xc k := fun V px σ H s Q q hx => by
  obtain ⟨f, fd, ps, F, hm, hk, hb⟩ := F.ex
  refine tm_of (pe_callS (E := fun _ => V) F hr hg hm hk hb px (pa_tm (e :: es)) hdb he hpl) ?_
  refine h σ H s _ fun vs H1 ds A1 t1 r1 l1 h1 => ?_
  exact ⟨ds, A1, k, xc, r1, l1, h1, fun v H' d A' t2 r2 l2 k2 => q v H' d A' (t1.trans t2) r2 l2 k2, fun c H' A' t2 l2 k2 => hx c H' A' (t1.trans t2) l2 k2⟩
theorem aex_lc {tg iter elt : Expr} {is : List Nat} {scope : Scope} {own : List (Str × Nat)} (hst : X.stack = X.env :: X.outer) (hf : X.env.frame = some X.env.locals) (hc : X.calm = true) (hN : X.N.Nodup) (tk : L2N.Takes X W) (ok : BlkOk X.N X.env.scope scope own) (hsub : ∀ i ∈ is, i ∈ own.map (·.2))
    (hi : AI X tg iter ρ A fun A1 G n f => n ≤ sizeLine ∧ ∃ Pv : Addr → Nat → List D → AH → Prop, (∀ p, A1 p = none → Pv p 0 [] (aupd A1 p (.lst []))) ∧ (∀ p i acc A', i ≤ n → Pv p i acc A' → G A' ∧ acc.length = i) ∧
      (∀ p i acc A', i < n → Pv p i acc A' → ∃ ρ2, ∀ (s : Shared) (H : Hp) (C : Addr) (cl : List (Str × Addr)) (fp : List Addr) (xe : Value → Shared → Prop), AG (bx X s H scope (compEnvC scope cl C X.env) fp xe) tg is (wipeR ρ (own.map (·.2))) (f i) ρ2 ∧
        AEy (bx X s H scope (compEnvC scope cl C X.env) fp xe) elt ρ2 A' xc fun d A2 => A2 p = some (.lst acc) ∧ Pv p (i + 1) (acc ++ [d]) (aupd A2 p (.lst (acc ++ [d])))) ∧
      ∀ p acc A', Pv p n acc A' → k (.ref p) A') (hs : ∀ x, foldedSetIterable iter X.env x = pure x := by intro _; rfl) : AEx X W (.ListComp elt [⟨tg, iter, [], 0⟩] scope pos) ρ A xc k := fun σ H s Q q hx => by
  refine tm_of (pe_lcX (g := blkGX X scope tg) (te := fun σ0 => blkEX X W σ0 scope elt) hst hf hc hN tk (pi_tm tg iter) ok (fun s H0 C cl fp xe => ⟨fun pins s1 σ1 H1 v u Q1 I r h => (h s H0 C cl fp xe).go pins s1 u I r⟩)
    (fun σ0 s H0 C cl fp xe px => ⟨fun pins s1 σ1 H1 Q1 I h => (h s H0 C cl fp xe px).go pins s1 I⟩) hs) ?_
  refine hi σ H s _ fun J H1 A1 G n f t1 l1 wk ⟨hn, Pv, h0, hG, hb, hd⟩ D hD => ?_
  refine ⟨fun i m H' => ∃ acc A', TS H1 H' ∧ Rel X.K A' H' ∧ m = n - i ∧ i ≤ n ∧ Pv D i acc A', ⟨n, [], _, TS.new hD, (l1.newL hD .nil).2, by simp, Nat.zero_le _, h0 D (l1.none hD)⟩, ?_⟩
  rintro i m H2 ⟨acc, A2, t2, l2, rfl, hle, p2⟩
  obtain ⟨g2, ea⟩ := hG D i acc A2 hle p2
  by_cases hlt : i < n
  · refine .inr ⟨wk.go i H2 A2 hlt t2 l2 g2, fun H' => ∃ acc A', TS H1 H' ∧ Rel X.K A' H' ∧ Pv D (i + 1) acc A', ?_, ?_⟩
    · rintro H' ⟨acc, A', t', l', p'⟩
      exact ⟨n - (i + 1), by omega, acc, A', t', l', rfl, hlt, p'⟩
    · intro x H3 y3
      obtain ⟨t3, l3, r3⟩ := wk.yl i H2 A2 x H3 hlt t2 l2 g2 y3
      obtain ⟨ρ2, hb⟩ := hb D i acc A2 hlt p2
      intro s1 H01 C1 cl1 fp1 xe1
      have sW : Sr X.K (wipeR ρ (own.map (·.2))) A2 (L2.wipe σ (own.map (·.2))) H3 := (s.mono ((t1.trans t2).trans t3) l3).wipe _
      refine (hb s1 H01 C1 cl1 fp1 xe1).1 x _ H3 A2 sW r3 _ fun σ4 hl4 hj4 s4 => ?_
      refine ⟨(wipe_eq hl4 fun j hj => hj4 j fun z => hj (hsub j z)).trans (wipe_wipe _), ?_⟩
      unfold tYes
      dsimp only
      rw [if_pos rfl]
      intro s2 H02 C2 cl2 fp2 xe2 px2
      refine (hb s2 H02 C2 cl2 fp2 xe2).2 _ px2 σ4 H3 s4 _ (fun v H4 d A4 t4 r4 l4 hp4 => ?_) fun c H4 A4 t4 l4 x4 => hx c H4 A4 (((t1.trans t2).trans t3).trans t4) l4 x4
      obtain ⟨vs, e1, e2⟩ := l4.lst hp4.1
      obtain ⟨t5, l5⟩ := l4.putL e1 (e2.append (.one r4))
      refine ⟨vs, e1, ?_, acc ++ [d], _, ((t2.trans t3).trans t4).trans t5, l5, hp4.2⟩
      rw [e2.length, ea]
      omega
  · have e : i = n := by omega
    subst e
    exact .inl ⟨wk.st H2 A2 t2 l2 g2, q (.ref D) H2 (.ref D) A2 (t1.trans t2) (.ref D) l2 (hd D acc A2 p2)⟩
/-- elements by value, some of which raise -/
theorem aex_lcV {tg iter elt : Expr} {is : List Nat} {scope : Scope} {own : List (Str × Nat)} {g : Nat → D} {good : Nat → Prop} {n : Nat} (hst : X.stack = X.env :: X.outer) (hf : X.env.frame = some X.env.locals) (hc : X.calm = true) (hN : X.N.Nodup) (tk : L2N.Takes X W) (ok : BlkOk X.N X.env.scope scope own) (hsub : ∀ i ∈ is, i ∈ own.map (·.2))
    (hi : AI X tg iter ρ A fun A1 G n' f => n' = n ∧ Ext A A1 ∧ n ≤ sizeLine ∧ (∀ A', Ext A1 A' → G A') ∧
      ∀ i, i < n → ∃ ρ2, ∀ (s : Shared) (H : Hp) (C : Addr) (cl : List (Str × Addr)) (fp : List Addr) (xe : Value → Shared → Prop), AG (bx X s H scope (compEnvC scope cl C X.env) fp xe) tg is (wipeR ρ (own.map (·.2))) (f i) ρ2 ∧ ∀ A', Ext A1 A' → ∀ kk : AK, (good i → kk (g i) A') → AEy (bx X s H scope (compEnvC scope cl C X.env) fp xe) elt ρ2 A' xc kk)
    (q : (∀ i, i < n → good i) → ∀ p, A p = none → k (.ref p) (aupd A p (.lst ((List.range n).map g)))) (hs : ∀ x, foldedSetIterable iter X.env x = pure x := by intro _; rfl) : AEx X W (.ListComp elt [⟨tg, iter, [], 0⟩] scope pos) ρ A xc k := by
  have main : AEx X W (.ListComp elt [⟨tg, iter, [], 0⟩] scope pos) ρ A xc fun d A' => ∃ p A1, Ext A A1 ∧ A1 p = none ∧ (∀ i, i < n → good i) ∧ d = .ref p ∧ A' = aupd A1 p (.lst ((List.range n).map g)) := by
    refine aex_lc hst hf hc hN tk ok hsub (fun σ H s R hR => hi σ H s R fun J H' A1 G n' f t l wk ⟨en, ex, hn, hG, hb⟩ => hR J H' A1 G n' f t l wk ?_) hs
    subst en
    refine ⟨hn, fun p i acc A' => A1 p = none ∧ A' = aupd A1 p (.lst acc) ∧ acc = (List.range i).map g ∧ ∀ j, j < i → good j, fun p hp => ⟨hp, rfl, rfl, fun j hj => absurd hj (Nat.not_lt_zero _)⟩, ?_, ?_, ?_⟩
    · rintro p i acc A' _ ⟨hp, rfl, rfl, _⟩
      exact ⟨hG _ (Ext.new hp), by simp⟩
    · rintro p i acc A' hlt ⟨hp, rfl, rfl, hq⟩
      obtain ⟨ρ2, hb⟩ := hb i hlt
      refine ⟨ρ2, fun s H C cl fp xe => ⟨(hb s H C cl fp xe).1, (hb s H C cl fp xe).2 _ (Ext.new hp) _ fun gi => ⟨aupd_same, hp, aupd_aupd, ?_, fun j hj => (Nat.lt_succ_iff_lt_or_eq.mp hj).elim (hq j) fun e => e ▸ gi⟩⟩⟩
      rw [List.range_succ, List.map_append]
      rfl
    · rintro p acc A' ⟨hp, rfl, rfl, hq⟩
      exact ⟨p, A1, ex, hp, hq, rfl, rfl⟩
  exact fun σ H s Q hq hx => main σ H s Q (fun v H' d A' t r l ⟨p, A1, ex, hp, hg, e1, e2⟩ => by
    subst e1 e2
    exact hq v H' _ _ t r (l.sub (Ext.upd ex p _)) (q hg p (ex.none hp))) hx
/-- elements that are new lists, some of which raise -/
theorem aex_lcL {tg iter elt : Expr} {is : List Nat} {scope : Scope} {own : List (Str × Nat)} {g : Nat → List D} {good : Nat → Prop} {n : Nat} (hst : X.stack = X.env :: X.outer) (hf : X.env.frame = some X.env.locals) (hc : X.calm = true) (hN : X.N.Nodup) (tk : L2N.Takes X W) (ok : BlkOk X.N X.env.scope scope own) (hsub : ∀ i ∈ is, i ∈ own.map (·.2))
    (hi : AI X tg iter ρ A fun A1 G n' f => n' = n ∧ Ext A A1 ∧ n ≤ sizeLine ∧ (∀ A', Ext A1 A' → G A') ∧
      ∀ i, i < n → ∃ ρ2, ∀ (s : Shared) (H : Hp) (C : Addr) (cl : List (Str × Addr)) (fp : List Addr) (xe : Value → Shared → Prop), AG (bx X s H scope (compEnvC scope cl C X.env) fp xe) tg is (wipeR ρ (own.map (·.2))) (f i) ρ2 ∧
        ∀ A', Ext A1 A' → ∀ kk : AK, (good i → ∀ z, A' z = none → kk (.ref z) (aupd A' z (.lst (g i)))) → AEy (bx X s H scope (compEnvC scope cl C X.env) fp xe) elt ρ2 A' xc kk)
    (q : (∀ i, i < n → good i) → ∀ r ps A', NL A r ps A' ((List.range n).map g) → k (.ref r) A') (hs : ∀ x, foldedSetIterable iter X.env x = pure x := by intro _; rfl) : AEx X W (.ListComp elt [⟨tg, iter, [], 0⟩] scope pos) ρ A xc k := by
  refine aex_lc hst hf hc hN tk ok hsub (fun σ H s R hR => hi σ H s R fun J H' A1 G n' f t l wk ⟨en, ex, hn, hG, hb⟩ => hR J H' A1 G n' f t l wk ?_) hs
  subst en
  refine ⟨hn, fun p i acc A' => ∃ ps : List Addr, acc = ps.map D.ref ∧ ps.length = i ∧ Ext A1 A' ∧ A1 p = none ∧ A' p = some (.lst acc) ∧ p ∉ ps ∧ ps.Nodup ∧ (∀ j q, ps[j]? = some q → A1 q = none ∧ A' q = some (.lst (g j))) ∧ ∀ j, j < i → good j, ?_, ?_, ?_, ?_⟩
  · intro p hp
    exact ⟨[], rfl, rfl, Ext.new hp, hp, aupd_same, by simp, List.nodup_nil, fun j q h => by simp at h, fun j hj => absurd hj (Nat.not_lt_zero _)⟩
  · rintro p i acc A' hle ⟨ps, rfl, e2, e3, _⟩
    exact ⟨hG A' e3, by rw [List.length_map]; exact e2⟩
  · rintro p i acc A' hlt ⟨ps, rfl, e2, e3, e4, e5, e6, e7, e8, e9⟩
    obtain ⟨ρ2, hb⟩ := hb i hlt
    refine ⟨ρ2, fun s H C cl fp xe => ⟨(hb s H C cl fp xe).1, (hb s H C cl fp xe).2 A' e3 _ fun gi z hz => ?_⟩⟩
    have zp : p ≠ z := fun e => by rw [← e, e5] at hz; cases hz
    have zps : z ∉ ps := fun hm => by
      obtain ⟨j, hj⟩ := List.getElem?_of_mem hm
      rw [(e8 j z hj).2] at hz; cases hz
    refine ⟨by rw [aupd_ne zp]; exact e5, ps ++ [z], by rw [List.map_append]; rfl, by rw [List.length_append, e2]; rfl, (e3.trans (Ext.new hz)).put e4, e4, aupd_same, ?_, ?_, ?_, fun j hj => (Nat.lt_succ_iff_lt_or_eq.mp hj).elim (e9 j) fun e => e ▸ gi⟩
    · rw [List.mem_append, List.mem_singleton]; exact fun h => h.elim e6 zp
    · exact List.nodup_append.mpr ⟨e7, by simp, fun a ha b hb => by rw [List.mem_singleton.mp hb]; exact fun e => zps (e ▸ ha)⟩
    · intro j y hy
      by_cases hj : j < ps.length
      · rw [List.getElem?_append_left hj] at hy
        obtain ⟨h1, h2⟩ := e8 j y hy
        have ym : y ∈ ps := List.mem_of_getElem? hy
        have n1 : y ≠ p := fun e => e6 (by rw [← e]; exact ym)
        have n2 : y ≠ z := fun e => zps (by rw [← e]; exact ym)
        exact ⟨h1, by rw [aupd_ne n1, aupd_ne n2]; exact h2⟩
      · rw [List.getElem?_append_right (by omega)] at hy
        have ej : j = ps.length := by
          have := (List.getElem?_eq_some_iff.mp hy).1
          simp at this; omega
        subst ej
        rw [Nat.sub_self] at hy
        cases hy
        exact ⟨e3.none hz, by rw [aupd_ne (show z ≠ p from fun e => zp e.symm), aupd_same, e2]⟩
  · rintro p acc A' ⟨ps, rfl, e2, e3, e4, e5, e6, e7, e8, e9⟩
    refine q e9 p ps A' ⟨⟨ex.trans e3, ex.none e4, e5, e6, fun i y hy => ⟨ex.none (e8 i y hy).1, _, (e8 i y hy).2, ?_⟩⟩, by simp [e2], e7⟩
    have hi : i < ps.length := (List.getElem?_eq_some_iff.mp hy).1
    rw [List.getD_eq_getElem?_getD, List.getElem?_map, List.getElem?_range (by omega)]; rfl
/-- a new object, the arguments may raise, too -/
theorem aex_mkA {C : Addr} (F : Ini X.prog X.w X.K X.mg X.base C lv ct) (tk : L2N.Takes X W) (hm : X.mg n = some (.ref C)) (hr : Room (lv + 1) X.A) (hg : Gl X n) (h : AEsx X W (e :: es) ρ A xc fun ds A1 => ∀ x y, A1 x = none → ct (.ref x :: ds) (aupd A1 x (.ins C y [])) (fun d A2 => d = .non ∧ k (.ref x) A2) xc)
    (hdb : (n == ("__debug__" : Str)) = false := by decide) (he : starEach (e :: es) X.env = (false, eval e X.env) :: starEach es X.env := by rfl) (hpl : (backTo pos (starEach es X.env)).any (·.1) = false := by rfl) : AEx X W (.Call (.Name n p0) (e :: es) [] pos) ρ A xc k := fun σ H s Q q hx0 => by
  obtain ⟨f, fd, ps, F, M, hb⟩ := F.ex
  refine tm_of (pe_mkX (E := WE W) M F hr hg hm hb (fun σ => L2N.passAt tk σ) (pa_tm (e :: es)) hdb he hpl) (h σ H s _ (fun vs H1 ds A1 t1 r1 l1 h1 x y hx hy ne => ?_) hx0)
  obtain ⟨t2, l2⟩ := mkT (vs := vs) (C := C) l1 hx hy ne
  exact ⟨.ref x :: ds, _, _, xc, .cons (.ref x) (r1.mono t2), l2, h1 x y (l1.none hx), fun v H' d A' t3 r3 l3 ⟨ed, k3⟩ => ⟨by rw [ed] at r3; exact r3.non_of, q _ H' _ A' ((t1.trans t2).trans t3) (.ref x) l3 k3⟩, fun c H' A' t3 l3 k3 => hx0 c H' A' ((t1.trans t2).trans t3) l3 k3⟩
end
/-! ### a text, a number of times -/
def repS (x : Str) (n : Nat) : Str := ⟨(List.replicate n x.cps).foldl (· ++ ·) #[]⟩
theorem op_mulS {X : Cx} {x : Str} {n : Int} (h0 : 1 < n) (hr : (decide (n < -(2 ^ 63 : Int)) || decide (n ≥ 2 ^ 63)) = false) (hl0 : (n == 1 || x.length == 0) = false) (hb : ¬ ((x.length : Int) > (2 ^ 63 - 1) / n)) (hl : Builtin.Str.tooLong (x.length * n.toNat) = false) (hz : (repS x n.toNat).length ≤ sizeLine) :
    OpR X (binaryOp .Mult) (fun a b H Q => a = .str x ∧ b = .int n ∧ Q (.str (repS x n.toNat)) H) := by
  intro pins s σ H a b v u Q I ra rb ⟨ea, eb, q⟩
  subst ea eb
  obtain ⟨t, rfl⟩ := ra
  obtain ⟨t', rfl⟩ := rb
  refine PySem.P.mul_str hr (fun _ _ => hb) (fun _ _ => hl) ?_
  rw [if_neg (show ¬ n < 1 by omega), if_neg (by rw [hl0]; exact Bool.false_ne_true)]
  exact ⟨hz, .str (repS x n.toNat), H, I.tok _, ⟨_, rfl⟩, q⟩
theorem av_mulS1 {X : Cx} {ρ : Ro} {A : AH} {a b : Expr} {pos : Pos} {x : Str} {n : Int} (ha : AV X a ρ A (.str x)) (hb : AV X b ρ A (.int n)) (h0 : 1 < n) (hr : (decide (n < -(2 ^ 63 : Int)) || decide (n ≥ 2 ^ 63)) = false) (hl0 : (n == 1 || x.length == 0) = false) (hq : ¬ ((x.length : Int) > (2 ^ 63 - 1) / n)) (hl : Builtin.Str.tooLong (x.length * n.toNat) = false) (hz : (repS x n.toNat).length ≤ sizeLine) :
    AV X (.BinOp a .Mult b pos) ρ A (.str (repS x n.toNat)) :=
  av_op (op_mulS h0 hr hl0 hq hl hz) ha hb fun v u H r1 r2 l Q q => by
    rw [r1.str_of, r2.int_of]
    exact ⟨rfl, rfl, q _ H (TS.refl H) (.str _) l⟩
end C7
namespace C7
open PySem PySem.Spec PyProof.Rows L2
/-! ### zip of a list and a text -/
def Itzs (K : PySem.W.Frag) (a : Addr) (x : Str) : It :=
  ⟨fun i H => ∃ (xs : List V) (v : V) (c : Nat), SqL K H a xs ∧ xs[i]? = some v ∧ x.cps[i]? = some c,
    fun i H v H' => ∃ (T : Addr) (u : V) (c : Nat), v = .ref T ∧ H T = none ∧ H' = upd H T (.tup [u, .str ⟨#[c]⟩]) ∧ (∀ xs, SqL K H a xs → xs[i]? = some u) ∧ x.cps[i]? = some c,
    fun i H => ∃ xs : List V, SqL K H a xs ∧ i ≤ xs.length ∧ i ≤ x.cps.size ∧ (i = xs.length ∨ i = x.cps.size)⟩
def zsAt (z TI TO i1 i2 a : Addr) (x : Str) (t : Tok) (i : Nat) (h : Heap) : Prop := IsZip h z TI TO .none ∧ IsTupOf2 h TI (.ref i1) (.ref i2) ∧ (∃ a1 a2, IsTupOf2 h TO a1 a2) ∧ h.IsListIter i1 a i ∧ h.IsStrIter i2 (strIterType x) x t i
theorem five {z TI TO i1 i2 b : Addr} (h : b ∈ [z, TI, TO, i1, i2]) : b = z ∨ b = TI ∨ b = TO ∨ b = i1 ∨ b = i2 := by simpa using h
theorem turn_zs {P : Program} {w : World} {K : PySem.W.Frag} {elts : List Expr} {kk : Nat} {tpos : Pos} {a z TI TO i1 i2 : Addr} {x : Str} {t : Tok} (S : ZipSep2 z TI TO i1 i2 [i1, a] [i2]) (hne : a ≠ i1) : Turn P w K (.Tuple elts kk tpos) (Itzs K a x) [z, TI, TO, i1, i2] z (zsAt z TI TO i1 i2 a x t) where
  mem := List.mem_cons_self ..
  obj := fun i h ⟨hz, hTI, ⟨a1, a2, hTO⟩, ⟨o1, e1, _, d1⟩, ⟨o2, e2, _, d2⟩⟩ c hc => by
    rcases five hc with q | q | q | q | q <;> rw [q]
    · exact ⟨_, hz, fun v q => nomatch q⟩
    · exact ⟨_, hTI, fun v q => nomatch q⟩
    · exact ⟨_, hTO, fun v q => nomatch q⟩
    · exact ⟨o1, e1, fun v q => by rw [d1] at q; cases q⟩
    · exact ⟨o2, e2, fun v q => by rw [d2] at q; cases q⟩
  keep := fun i h h' ⟨hz, hTI, ⟨a1, a2, hTO⟩, ⟨o1, e1, r1⟩, ⟨o2, e2, r2⟩⟩ k => ⟨k z (by simp) _ hz, k TI (by simp) _ hTI, ⟨a1, a2, k TO (by simp) _ hTO⟩, ⟨o1, k i1 (by simp) _ e1, r1⟩, ⟨o2, k i2 (by simp) _ e2, r2⟩⟩
  item := by
    rintro X rfl rfl rfl hc i pins s σ H E I hf ⟨hz, hTI, ⟨a1, a2, hTO⟩, h1, h2⟩ ⟨xs, v, c, hq, hv, hcs⟩
    obtain ⟨its, rv, p, _⟩ := I.list hq
    obtain ⟨u, hu, ru⟩ := rv.get hv
    have hh : X.A.in1.handled = none := I.ok.hd hc
    have lt1 : i < its.toArray.size := by rw [List.size_toArray]; exact (List.getElem?_eq_some_iff.mp hu).1
    have lt2 : i < x.cps.size := (Array.getElem?_eq_some_iff.mp hcs).1
    have hzl : z < s.heap.objs.size := Heap.lt_size hz
    refine wpAny_pyNext_zipD2_item S (Draws.list hh i1 a hne its.toArray) (Draws.text hh i2 x t) hz hTI hTO ⟨h1, p.isList⟩ h2 lt1 lt2 fun x1 x2 h' tk y1 y2 b1 b2 d1 d2 b5 b6 hk => ?_
    obtain ⟨c', t', hc', rfl⟩ := y2
    have ec : c' = c := by rw [hcs] at hc'; exact (Option.some.inj hc').symm
    subst ec
    have e1 : x1 = u := by
      rw [List.getElem?_toArray, hu] at y1
      exact (Option.some.inj y1).symm
    subst e1
    refine ⟨_, rfl, wpAny_letOwnedTupleGo_zip (s := { s with heap := h', toks := tk }) b1 fun h'' z'' sb => ?_⟩
    have hT2 : h''.get? s.heap.objs.size = some { cls := .type "tuple", data := .seq #[x1, .str ⟨#[c']⟩ t'] } := (sb.2 _ (Nat.ne_of_gt hzl)).trans b5
    have new : ObjOk X.prog X.w (upd H s.heap.objs.size (.tup [v, .str ⟨#[c']⟩])) h'' s.heap.objs.size (.tup [v, .str ⟨#[c']⟩]) :=
      ⟨by show 2 ≤ sizeLine; decide, [x1, .str ⟨#[c']⟩ t'], .cons ru (.cons ⟨t', rfl⟩ .nil), ⟨_, hT2, rfl, _, rfl⟩⟩
    have stay : ∀ b o, b ∉ [z, TI, TO, i1, i2] → s.heap.get? b = some o → h''.get? b = some o := fun b o hb e => by
      simp only [List.mem_cons, List.not_mem_nil, or_false, not_or] at hb
      exact (sb.2 b hb.1).trans (hk b o hb.1 hb.2.2.1 hb.2.2.2.1 hb.2.2.2.2 e)
    have I1 := I.turnedNew (t' := tk) (ch := [z, TI, TO, i1, i2]) stay hf (Nat.le_refl _) new
    refine ⟨.ref s.heap.objs.size, _, I1, rfl, ⟨_, v, c', rfl, I.hok.fresh (Nat.le_refl _), rfl, fun l hl => by rw [I.list_inj hl hq]; exact hv, hcs⟩, ⟨z'', (sb.2 _ S.TIz).trans (hk _ _ S.TIz S.TITO S.TIi1 S.TIi2 hTI), ⟨_, _, (sb.2 _ S.TOz).trans b2⟩, ?_, ?_⟩, fun b hb => ?_⟩
    · obtain ⟨o1, g1, r1⟩ := d1.1
      exact ⟨o1, (sb.2 _ (Ne.symm S.zi1)).trans g1, r1⟩
    · obtain ⟨o2, g2, r2⟩ := d2
      exact ⟨o2, (sb.2 _ (Ne.symm S.zi2)).trans g2, r2⟩
    · have hlt : b < s.heap.objs.size := by
        rcases five hb with q | q | q | q | q <;> rw [q]
        · exact hzl
        · exact Heap.lt_size hTI
        · exact Heap.lt_size hTO
        · obtain ⟨_, e1, _⟩ := h1; exact Heap.lt_size e1
        · obtain ⟨_, e2, _⟩ := h2; exact Heap.lt_size e2
      rw [upd_ne (Nat.ne_of_lt hlt)]
      exact (hf b hb).1
  done := by
    rintro X rfl rfl rfl hc i pins s σ H E I hf ⟨hz, hTI, ⟨a1, a2, hTO⟩, h1, h2⟩ ⟨xs, hq, l1, l2, hend⟩
    obtain ⟨its, rv, p, _⟩ := I.list hq
    have hl := rv.length
    have hh : X.A.in1.handled = none := I.ok.hd hc
    refine wpAny_pyNext_zipD2_end S (Draws.list hh i1 a hne its.toArray) (Draws.text hh i2 x t) hz hTI hTO ⟨h1, p.isList⟩ h2 (by rw [List.size_toArray]; omega) l2 (by rw [List.size_toArray]; omega) fun h' tk hk => ⟨rfl, I.turnedL (t' := tk) (ch := [z, TI, TO, i1, i2]) (fun b o hb e => ?_) hf⟩
    simp only [List.mem_cons, List.not_mem_nil, or_false, not_or] at hb
    exact hk b o hb.1 hb.2.2.1 hb.2.2.2.1 hb.2.2.2.2 e
  self := fun A i s Q E st h => wpAny_pyIter_zip st.1 h
def iZipS (K : PySem.W.Frag) (ta : TA) : TI := fun σ H R => ta σ H fun vs H1 => ∃ (a : Addr) (xs : List V) (x : Str), vs = [.ref a, .str x] ∧ SqL K H1 a xs ∧ R (Itzs K a x) H1
theorem pi_zipS {X : Cx} {e e2 : Expr} {ta : TA} {p pos tpos : Pos} {elts : List Expr} {kk : Nat} (hg : Gl X "zip") (hm : X.mg "zip" = none) (ha : PA X [e, e2] ta)
    (hs : starEach [e, e2] X.env = (false, eval e X.env) :: starEach [e2] X.env := by rfl) (hpl : (backTo pos (starEach [e2] X.env)).any (·.1) = false := by rfl) :
    PI X (.Tuple elts kk tpos) (.Call (.Name "zip" p) [e, e2] [] pos) (iZipS X.K ta) := by
  refine ⟨fun pins s σ H R I h => ?_⟩
  refine Call_ (ld_blt I hg hm PyProof.Rows.boot_zip (PyProof.Rows.callWith_type1 (thn (ha.run pos pins s σ H _ I h) fun us s1 ⟨vs, H1, I1, r1, a, xs, x, ex, hq, q⟩ => ?_) hs hpl))
  subst ex
  cases r1 with
  | cons r rr =>
    cases rr with
    | cons r' rr =>
      cases rr
      cases r
      obtain ⟨t, rfl⟩ := r'
      obtain ⟨its, rv, p1, _⟩ := I1.list hq
      have la : a < s1.heap.objs.size := p1.lt
      refine zip_begins2 (begins_list a its.toArray) (begins_text x t) p1.isList trivial fun h' hz hTI hTO g1 g2 hsz hk => wpAny_pyIter_zip hz ?_
      have I2 : Inv X pins σ H1 { s1 with heap := h' } := I1.kept (t' := s1.toks) hk
      have S := zip_sep2 (N := s1.heap.objs.size) (fp1 := [a]) (fp2 := []) (by simpa using la) (by simp)
      refine ⟨s1.heap.objs.size + 4, [s1.heap.objs.size + 4, s1.heap.objs.size + 2, s1.heap.objs.size + 3, s1.heap.objs.size, s1.heap.objs.size + 1], _, _, H1, rfl, I2, turn_zs (x := x) (t := t) S (Nat.ne_of_lt la), ⟨hz, hTI, ⟨_, _, hTO⟩, ⟨_, g1, rfl, rfl⟩, ⟨_, g2, rfl, rfl⟩⟩, fun c hc => ?_, q⟩
      have hle : s1.heap.objs.size ≤ c := by rcases five hc with q | q | q | q | q <;> rw [q] <;> first | exact Nat.le_refl _ | exact Nat.le_add_right _ _
      exact I1.fpOk hle (I1.hok.fresh hle)
theorem wk_zs {K : Frag} {H0 : Hp} {p : Addr} {x0 : D} {ds : List D} {x : Str} (r0 : Rp K H0 (.ref p) x0) : Wk K H0 (Itzs K p x) (fun A => IsL A x0 ds) (min ds.length x.cps.size) (fun i => .tup [ds.getD i .non, .str ⟨#[x.cps.getD i 0]⟩]) where
  go := fun i H A h t r g => by
    obtain ⟨q1, vs, ep, h1, h2⟩ := g.sq (r0.mono t) r
    cases ep
    have hi : i < vs.length := by rw [h2.length]; omega
    have hj : i < x.cps.size := by omega
    exact ⟨vs, vs[i], x.cps[i], h1, List.getElem?_eq_getElem hi, Array.getElem?_eq_getElem hj⟩
  yl := fun i H A v H' h t r g y => by
    obtain ⟨T, u, c, rfl, hT, rfl, hu, hc⟩ := y
    obtain ⟨q1, vs, ep, h1, h2⟩ := g.sq (r0.mono t) r
    cases ep
    obtain ⟨d, e1, e2⟩ := h2.getV (hu vs h1)
    refine ⟨TS.new hT, r.newT hT, ?_⟩
    rw [List.getD_eq_getElem?_getD, e1, Array.getD_eq_getD_getElem?, hc]
    exact tup_ok (.cons e2 (.one (.str _))) hT
  st := fun H A t r g => by
    obtain ⟨q1, vs, ep, h1, h2⟩ := g.sq (r0.mono t) r
    cases ep
    exact ⟨vs, h1, by rw [h2.length]; omega, by omega, by rw [h2.length]; omega⟩
section
variable {X : Cx} {ρ : Ro} {A : AH} {a b : Expr} {p0 pos : Pos} {β : Type} {f : β → D} {xs : List β} {x : Str}
theorem ai_zs {kI : AH → (AH → Prop) → Nat → (Nat → D) → Prop} {elts : List Expr} {kk : Nat} {tpos : Pos} (hg : Gl X "zip") (hm : X.mg "zip" = none) (h : AEs X [a, b] ρ A fun es' A1 => ∃ y ds x, es' = [y, .str x] ∧ IsL A1 y ds ∧ kI A1 (fun A' => IsL A' y ds) (min ds.length x.cps.size) (fun i => .tup [ds.getD i .non, .str ⟨#[x.cps.getD i 0]⟩]))
    (hs : starEach [a, b] X.env = (false, eval a X.env) :: starEach [b] X.env := by rfl) (hpl : (backTo pos (starEach [b] X.env)).any (·.1) = false := by rfl) : AI X (.Tuple elts kk tpos) (.Call (.Name "zip" p0) [a, b] [] pos) ρ A kI := fun σ H s R q =>
  tmi_of (pi_zipS hg hm (pa_tm [a, b]) hs hpl) (h σ H s _ fun vs H1 es' A1 t1 r1 l1 ⟨y, ds, x, e, hl, k1⟩ => by
    subst e
    obtain ⟨v, v', rfl, r1, r2⟩ := rps2 r1
    obtain ⟨p, xs, rfl, h1, h2⟩ := hl.sq r1 l1
    rw [r2.str_of]
    exact ⟨p, xs, x, rfl, h1, q _ H1 A1 _ _ _ t1 l1 (wk_zs r1) k1⟩)
theorem ai_zipS {kI : AH → (AH → Prop) → Nat → (Nat → D) → Prop} (d0 : β) {elts : List Expr} {kk : Nat} {tpos : Pos} (hg : Gl X "zip") (hm : X.mg "zip" = none) (h : AVs X [a, b] ρ A [.fz (xs.map f), .str x]) (q : kI A (fun _ => True) (min xs.length x.cps.size) (fun i => .tup [f (xs.getD i d0), .str ⟨#[x.cps.getD i 0]⟩]))
    (hs : starEach [a, b] X.env = (false, eval a X.env) :: starEach [b] X.env := by rfl) (hpl : (backTo pos (starEach [b] X.env)).any (·.1) = false := by rfl) : AI X (.Tuple elts kk tpos) (.Call (.Name "zip" p0) [a, b] [] pos) ρ A kI :=
  AI.to (ai_zs hg hm (h.aes ⟨_, _, x, rfl, IsL.fz, fun _ => True, fun i => .tup [f (xs.getD i d0), .str ⟨#[x.cps.getD i 0]⟩], fun i hi => by
    rw [List.length_map] at hi
    dsimp only
    rw [getD_mapF d0 (by omega)], fun _ _ => IsL.fz, by rw [List.length_map]; exact q⟩) hs hpl)
end
end C7
namespace C7
open PySem PySem.Spec PyProof.Rows L2
/-! ### dicts keyed by texts -/
def keyS (q : Str × D) : Key × D := (Sum.inr q.1, q.2)
def dkS (kvs : List (Str × D)) : AO := .dK (kvs.map keyS)
def lkS (kvs : List (Str × D)) (x : Str) : Option D := (kvs.find? fun q => decide (q.1 = x)).map (·.2)
def putS (kvs : List (Str × D)) (x : Str) (d : D) : List (Str × D) := if (kvs.any fun q => decide (q.1 = x)) = true then kvs.map (fun q => if q.1 = x then (q.1, d) else q) else kvs ++ [(x, d)]
def EnS (K : Frag) (H : Hp) (p : Key × V) (q : Key × D) : Prop := p.1 = q.1 ∧ Rp K H p.2 q.2
theorem lk_pairS {K : Frag} {H : Hp} {x : Str} : ∀ {kvs : List (Str × D)} {gs : List (Key × V)}, Paired (EnS K H) gs (kvs.map keyS) → (lkS kvs x = none ∧ valV gs (Sum.inr x) = none) ∨ ∃ d v, lkS kvs x = some d ∧ valV gs (Sum.inr x) = some v ∧ Rp K H v d
  | [], _, .nil => .inl ⟨rfl, rfl⟩
  | (y, d) :: kvs, p :: _, .cons h t => by
    obtain ⟨pk, pv⟩ := p
    obtain ⟨h1, h2⟩ := h
    have h1 : pk = Sum.inr y := h1
    subst h1
    by_cases e : y = x
    · subst e
      refine .inr ⟨d, pv, ?_, valV_pos rfl, h2⟩
      simp [lkS]
    · have e2 : ¬ ((Sum.inr y, pv) : Key × V).1 = Sum.inr x := fun z => e (Sum.inr.inj z)
      rw [valV_neg e2, show lkS ((y, d) :: kvs) x = lkS kvs x by simp [lkS, List.find?_cons, e]]
      exact lk_pairS t
theorem len_pairS {K : Frag} {H : Hp} {kvs : List (Str × D)} {gs : List (Key × V)} (h : Paired (EnS K H) gs (kvs.map keyS)) : gs.length = kvs.length := by rw [Paired.length h, List.length_map]
theorem any_pairS {K : Frag} {H : Hp} {x : Str} {kvs : List (Str × D)} {gs : List (Key × V)} (h : Paired (EnS K H) gs (kvs.map keyS)) : (gs.any fun kv => decide (kv.1 = Sum.inr x)) = (kvs.any fun q => decide (q.1 = x)) := by
  induction kvs generalizing gs with
  | nil => cases h; rfl
  | cons q kvs ih =>
    cases h with
    | cons h t =>
      rw [List.any_cons, List.any_cons, ih t]
      congr 1
      have h1 := h.1
      rw [h1]
      exact decide_eq_decide.mpr ⟨fun z => Sum.inr.inj z, fun z => by rw [← z]; rfl⟩
theorem put_mapS {K : Frag} {H : Hp} {x : Str} {v : V} {d : D} (r : Rp K H v d) : ∀ {kvs : List (Str × D)} {gs : List (Key × V)}, Paired (EnS K H) gs (kvs.map keyS) →
    Paired (EnS K H) (gs.map fun kv => if kv.1 = Sum.inr x then (kv.1, v) else kv) ((kvs.map fun q => if q.1 = x then (q.1, d) else q).map keyS)
  | [], _, .nil => .nil
  | (y, d0) :: kvs, p :: _, .cons h t => by
    obtain ⟨pk, pv⟩ := p
    obtain ⟨h1, h2⟩ := h
    have h1 : pk = Sum.inr y := h1
    subst h1
    refine .cons ?_ (put_mapS r t)
    by_cases e : y = x
    · subst e
      simp only [if_true]
      exact ⟨rfl, r⟩
    · have e2 : ¬ (Sum.inr y : Key) = Sum.inr x := fun z => e (Sum.inr.inj z)
      simp only [if_neg e, if_neg e2]
      exact ⟨rfl, h2⟩
theorem put_pairS {K : Frag} {H : Hp} {x : Str} {v : V} {d : D} (r : Rp K H v d) {kvs : List (Str × D)} {gs : List (Key × V)} (h : Paired (EnS K H) gs (kvs.map keyS)) : Paired (EnS K H) (putK gs (Sum.inr x) v) ((putS kvs x d).map keyS) := by
  unfold putK putS
  rw [any_pairS h]
  split
  · exact put_mapS r h
  · rw [List.map_append]
    exact Paired.snoc h ⟨rfl, r⟩
theorem Rel.dS {K : Frag} {A : AH} {H : Hp} {p : Addr} {kvs : List (Str × D)} (r : Rel K A H) (h : A p = some (dkS kvs)) : ∃ gs, H p = some (.dK gs) ∧ Paired (EnS K H) gs (kvs.map keyS) := by
  obtain ⟨u, e1, gs, e2, e3⟩ := r p _ h
  rw [e2] at e1
  exact ⟨gs, e1, e3⟩
section
variable {X : Cx}
theorem op_inS (hu : X.A.units + 1 < cLine) : OpR X (compareOp .In) (fun y x H Q => ∃ a o, x = V.ref a ∧ DGet H a y o ∧ Q (.bl o.isSome) H) := by
  intro pins s σ H y x v u Q I ry rx ⟨a, o, ex, g, q⟩
  subst ex
  obtain rfl : u = Value.ref a := rx
  exact d_in hu I g ry fun s3 I3 => ⟨.bl o.isSome, H, I3, rfl, q⟩
theorem op_notInS (hu : X.A.units + 1 < cLine) : OpR X (compareOp .NotIn) (fun y x H Q => ∃ a o, x = V.ref a ∧ DGet H a y o ∧ Q (.bl (!o.isSome)) H) := by
  intro pins s σ H y x v u Q I ry rx ⟨a, o, ex, g, q⟩
  subst ex
  obtain rfl : u = Value.ref a := rx
  exact d_notIn hu I g ry fun s3 I3 => ⟨.bl (!o.isSome), H, I3, rfl, q⟩
/-- a dict against an empty one -/
theorem op_neE (hu : X.A.units < cLine) : OpR X (compareOp .NotEq) (fun x y H Q => ∃ a b ks, x = V.ref a ∧ y = V.ref b ∧ H a = some (.dK ks) ∧ H b = some (.dK []) ∧ Q (.bl (!ks.isEmpty)) H) := by
  intro pins s σ H x y v u Q I rx ry ⟨a, b, ks, e1, e2, ea, eb, q⟩
  subst e1 e2
  obtain rfl : v = Value.ref a := rx
  obtain rfl : u = Value.ref b := ry
  obtain ⟨_, ya, va, ra, da⟩ := (show ObjOk X.prog X.w H s.heap a (.dK ks) from I.hok a _ ea)
  obtain ⟨_, yb, vb, rb, db⟩ := (show ObjOk X.prog X.w H s.heap b (.dK []) from I.hok b _ eb)
  have hb0 : vb.length = 0 := (rb.length).symm
  have ha0 : va.length = ks.length := (ra.length).symm
  refine PySem.W.keq_ne (knd := mixKind X.prog X.w) (r := true) ya yb da db hu (fun hl => ?_) (fin_bl I q ?_)
  · have : ks = [] := List.length_eq_zero_iff.mp (by omega)
    subst this
    exact hits_all rb ra fun p hp => nomatch hp
  · rw [hb0, ha0]
    cases ks <;> simp
end
section
variable {X : Cx} {W : WX} {ρ : Ro} {A : AH} {e a b o i : Expr} {pos p0 : Pos} {d : D} {k : AK} {E : AEnds} {kvs : List (Str × D)} {lv : Nat} {p : Addr} {x : Str}
theorem ru (hr : Room lv X.A) : X.A.units + 1 < cLine := by have := hr.units; omega
theorem ae_dictS (q : ∀ p, A p = none → k (.ref p) (aupd A p (dkS []))) : AE X (.Dict [] [] pos) ρ A k := fun σ H s Q qq =>
  tm_of pe_dnewK (fun p hp => qq _ _ _ _ (TS.new hp) (.ref p) (s.hp.new (o := dkS []) hp ⟨[], rfl, .nil⟩) (q p (s.hp.none hp)))
theorem dget_of {H : Hp} (l : Rel X.K A H) (hl : A p = some (dkS kvs)) : (lkS kvs x = none ∧ DGet H p (.str x) none) ∨ ∃ d v, lkS kvs x = some d ∧ DGet H p (.str x) (some v) ∧ Rp X.K H v d := by
  obtain ⟨gs, e1, e2⟩ := l.dS hl
  have g : DGet H p (.str x) (valV gs (Sum.inr x)) := DGet.k (k := Sum.inr x) e1
  rcases lk_pairS (x := x) e2 with ⟨h1, h2⟩ | ⟨d, v, h1, h2, h3⟩
  · rw [h2] at g
    exact .inl ⟨h1, g⟩
  · rw [h2] at g
    exact .inr ⟨d, v, h1, g, h3⟩
theorem av_ixS' (hr : Room lv X.A) (ha : AV X a ρ A (.ref p)) (hb : AV X b ρ A (.str x)) (hl : A p = some (dkS kvs)) (h : lkS kvs x = some d) (hs : NoSl b := by intro _ _; rfl) : AV X (.Subscript a b pos) ρ A d := fun σ H s Q q =>
  tm_of (pe_dget (ru hr) (pe_tm a) (pe_tm b) hs) (ha σ H s _ fun v H1 t1 r1 l1 => hb σ H1 (s.mono t1 l1) _ fun u H2 t2 r2 l2 => by
    rw [r1.ref_of, r2.str_of]
    rcases dget_of (x := x) l2 hl with ⟨h1, _⟩ | ⟨d2, v2, h1, g, r⟩
    · rw [h] at h1; cases h1
    · rw [h] at h1
      cases h1
      exact ⟨p, v2, rfl, g, q v2 H2 (t1.trans t2) r l2⟩)
theorem at_inS (hr : Room lv X.A) (hb : AV X b ρ A (.str x)) (ha : AV X a ρ A (.ref p)) (hl : A p = some (dkS kvs)) (hm : behindInMarks .In a = false := by rfl) : AT X (.Compare b [.In] [a] pos) ρ A (lkS kvs x).isSome :=
  at_cmp (op_inS (ru hr)) hm hb ha fun u v H r2 r1 l Q q => by
    rw [r1.ref_of, r2.str_of]
    rcases dget_of (x := x) l hl with ⟨h1, g⟩ | ⟨d2, v2, h1, g, r⟩
    · rw [h1] at q; exact ⟨p, none, rfl, g, q H (TS.refl H) l⟩
    · rw [h1] at q; exact ⟨p, some v2, rfl, g, q H (TS.refl H) l⟩
theorem at_notInS (hr : Room lv X.A) (hb : AV X b ρ A (.str x)) (ha : AV X a ρ A (.ref p)) (hl : A p = some (dkS kvs)) (hm : behindInMarks .NotIn a = false := by rfl) : AT X (.Compare b [.NotIn] [a] pos) ρ A (!(lkS kvs x).isSome) :=
  at_cmp (op_notInS (ru hr)) hm hb ha fun u v H r2 r1 l Q q => by
    rw [r1.ref_of, r2.str_of]
    rcases dget_of (x := x) l hl with ⟨h1, g⟩ | ⟨d2, v2, h1, g, r⟩
    · rw [h1] at q; exact ⟨p, none, rfl, g, q H (TS.refl H) l⟩
    · rw [h1] at q; exact ⟨p, some v2, rfl, g, q H (TS.refl H) l⟩
theorem a1_setS {tpos : Pos} (hr : Room lv X.A) (h : AV X e ρ A d) (ho : AV X o ρ A (.ref p)) (hi : AV X i ρ A (.str x)) (hl : A p = some (dkS kvs)) (hn : kvs.length < sizeLine) (q : E.nx ρ (aupd A p (dkS (putS kvs x d)))) (hs : swapsWith e (some (.Subscript o i tpos)) pos.line X.env = pure false := by rfl) : A1 X W (.Assign [.Subscript o i tpos] e pos) ρ A E := fun σ H s D qq =>
  tm1_of (ps_dput (ru hr) (pe_tm o) (pe_tm i) (pe_tm e) hs) (h σ H s _ fun v H1 t1 r1 l1 => ho σ H1 (s.mono t1 l1) _ fun w H2 t2 r2 l2 => hi σ H2 ((s.mono t1 l1).mono t2 l2) _ fun z H3 t3 r3 l3 => by
    have tt := (t1.trans t2).trans t3
    obtain ⟨gs, e1, e2⟩ := l3.dS hl
    have rv := (r1.mono t2).mono t3
    rw [r2.ref_of, r3.str_of]
    have t4 : TS H3 (upd H3 p (.dK (putK gs (Sum.inr x) v))) := TS.put e1 (fun _ z => nomatch z) (fun _ _ z => nomatch z)
    have l4 : Rel X.K (aupd A p (dkS (putS kvs x d))) (upd H3 p (.dK (putK gs (Sum.inr x) v))) := l3.put e1 (fun _ z => nomatch z) (fun _ _ z => nomatch z) ⟨_, rfl, Paired.mapP (put_pairS rv e2) fun _ _ z => ⟨z.1, z.2.mono t4⟩⟩
    exact ⟨p, _, rfl, DPut.k (k := Sum.inr x) e1 (by rw [len_pairS e2]; exact hn), qq.nx ρ _ σ _ (tt.trans t4) (s.mono (tt.trans t4) l4) q⟩)
/-- sorted(d) -/
theorem al_sortedS (hc : X.calm = true) (hg : Gl X "sorted") (hm : X.mg "sorted" = none) (ha : AV X a ρ A (.ref p)) (hl : A p = some (dkS kvs)) (h64 : kvs.length < 64) (q : ∀ ys : List Str, ys.Perm (kvs.map (·.1)) → sortedS ys = true → ∀ z, A z = none → k (.ref z) (aupd A z (.lst (ys.map D.str))))
    (hs : starEach [a] X.env = [(false, eval a X.env)] := by rfl) : AE X (.Call (.Name "sorted" p0) [a] [] pos) ρ A k :=
  ae_callB (call_sortedD hc) hg hm (by decide +kernel) (aes_cons (ha.ae (aes_nil (fun vs H r l Q qq => by
    obtain ⟨v, rfl, r1⟩ := rps1 r
    rw [r1.ref_of]
    obtain ⟨gs, e1, e2⟩ := l.dS hl
    refine ⟨p, gs, kvs.map (·.1), rfl, .inl e1, ?_, by rw [List.length_map]; exact h64, fun ys z h1 h2 hz => ?_⟩
    · clear h64 q hl l e1
      induction kvs generalizing gs with
      | nil => cases e2; rfl
      | cons c kvs ih =>
        cases e2 with
        | cons h t => rw [List.map_cons, List.map_cons, List.map_cons, ih _ t, h.1]; rfl
    · have hv : Rps X.K H (ys.map V.str) (ys.map D.str) := by
        clear h1 h2
        induction ys with
        | nil => exact .nil
        | cons y ys ih => exact .cons (.str y) ih
      obtain ⟨t, l'⟩ := l.newL hz hv
      exact qq _ _ _ _ t (.ref z) l' (q ys h1 h2 z (l.none hz))))) hs) (he := hs) (hpl := rfl)
/-- d != {} -/
theorem aet_neE (hr : Room lv X.A) {bpos : Pos} (ha : AV X a ρ A (.ref p)) (hl : A p = some (dkS kvs)) : AE X (.Compare a [.NotEq] [.Dict [] [] bpos] pos) ρ A fun d A' => d = .bl (!kvs.isEmpty) ∧ Ext A A' :=
  ae_cmpE (op_neE (by have := hr.units; omega)) (nomark _) (ha.ae (ae_dictS fun z hz v u H r1 r2 l Q q => by
    have hne : p ≠ z := fun e => by rw [e, hz] at hl; cases hl
    obtain ⟨gs, e1, e2⟩ := l.dS (p := p) (kvs := kvs) (by rw [aupd_ne hne]; exact hl)
    obtain ⟨gs0, e3, e4⟩ := l.dS (p := z) (kvs := []) aupd_same
    cases e4
    rw [r1.ref_of, r2.ref_of]
    have hb : (!gs.isEmpty) = !kvs.isEmpty := by
      have := len_pairS e2
      cases gs <;> cases kvs <;> simp_all
    rw [← hb] at q
    exact ⟨p, z, gs, rfl, rfl, e1, e3, q _ H _ _ (TS.refl H) (.bl _) l ⟨by rw [hb], Ext.new hz⟩⟩))
end
/-! ### a dict of the module whose keys and values are texts -/
def lkT (kvs : List (Str × Str)) (x : Str) : Option Str := (kvs.find? fun q => decide (q.1 = x)).map (·.2)
structure KdS (K : Frag) (w : World) (a : Addr) (kvs : List (Str × Str)) : Prop where
  kd : ∃ es n, KDict K w a es n
  no : ∀ x, lkT kvs x = none → PySem.W.nsIn K a x = some none
  yes : ∀ x y, lkT kvs x = some y → ∃ t, PySem.W.nsIn K a x = some (some (.str y t))
theorem ix_kdS {X : Cx} {p : Addr} {kvs : List (Str × Str)} (D : KdS X.K X.w p kvs) : IxR X (fun x y H Q => ∃ z u, x = V.ref p ∧ y = V.str z ∧ lkT kvs z = some u ∧ Q (.str u) H) := by
  intro value slice pins s σ H x y v u Q I rx ry ⟨z, r, ex, ey, h, q⟩ hs
  subst ex ey
  obtain ⟨es, n, D0⟩ := D.kd
  obtain ⟨t, ht⟩ := D.yes z r h
  obtain rfl : v = Value.ref p := rx
  exact tail_any (kd_type D0 I) slot_dict_getitem.lookup (op_item_kd D0 pins s σ H (.ref p) (.str z) (.ref p) u Q I rfl ry ⟨z, _, .str r, rfl, rfl, ht, ⟨t, rfl⟩, q⟩) hs
section
variable {X : Cx} {ρ : Ro} {A : AH} {a b : Expr} {pos : Pos} {p : Addr} {x u : Str} {kvs : List (Str × Str)} {ys : List Str}
theorem av_ixKd (D : KdS X.K X.w p kvs) (ha : AV X a ρ A (.ref p)) (hb : AV X b ρ A (.str x)) (h : lkT kvs x = some u) (hs : PlainIx b := by intro _ _; rfl) : AV X (.Subscript a b pos) ρ A (.str u) := fun σ H s Q q =>
  tm_of (pe_ix (ix_kdS D) (pe_tm a) (pe_tm b) hs) (ha σ H s _ fun v H1 t1 r1 l1 => hb σ H1 (s.mono t1 l1) _ fun w H2 t2 r2 l2 => by
    rw [r1.ref_of, r2.str_of]
    exact ⟨x, u, rfl, rfl, h, q _ H2 (t1.trans t2) (.str _) l2⟩)
theorem at_inKd (D : KdS X.K X.w p kvs) (hb : AV X b ρ A (.str x)) (ha : AV X a ρ A (.ref p)) (hm : behindInMarks .In a = false := by rfl) : AT X (.Compare b [.In] [a] pos) ρ A (lkT kvs x).isSome := by
  obtain ⟨es, n, D0⟩ := D.kd
  refine at_cmp (op_in_kd D0) hm hb ha fun v w H r2 r1 l Q q => ?_
  rw [r1.ref_of, r2.str_of]
  cases h : lkT kvs x with
  | none => rw [h] at q; exact ⟨x, none, rfl, rfl, D.no x h, q H (TS.refl H) l⟩
  | some y =>
    rw [h] at q
    obtain ⟨t, ht⟩ := D.yes x y h
    exact ⟨x, _, rfl, rfl, ht, q H (TS.refl H) l⟩
theorem at_notInKd (D : KdS X.K X.w p kvs) (hb : AV X b ρ A (.str x)) (ha : AV X a ρ A (.ref p)) (hm : behindInMarks .NotIn a = false := by rfl) : AT X (.Compare b [.NotIn] [a] pos) ρ A (!(lkT kvs x).isSome) := by
  obtain ⟨es, n, D0⟩ := D.kd
  refine at_cmp (op_notIn_kd D0) hm hb ha fun v w H r2 r1 l Q q => ?_
  rw [r1.ref_of, r2.str_of]
  cases h : lkT kvs x with
  | none => rw [h] at q; exact ⟨x, none, rfl, rfl, D.no x h, q H (TS.refl H) l⟩
  | some y =>
    rw [h] at q
    obtain ⟨t, ht⟩ := D.yes x y h
    exact ⟨x, _, rfl, rfl, ht, q H (TS.refl H) l⟩
/-- a text in a tuple of texts -/
theorem inV_str : inV (.str x) (ys.map V.str) = decide (x ∈ ys) := by
  induction ys with
  | nil => rfl
  | cons y ys ih =>
    show (eqV (.str y) (.str x) || inV (.str x) (ys.map V.str)) = _
    rw [ih, show eqV (.str y) (.str x) = (y == x) from rfl]
    by_cases e : y = x
    · subst e; simp
    · have : ¬ x = y := fun z => e z.symm
      simp [e, this]
theorem strs_of {K : Frag} {H : Hp} : ∀ {ys : List Str} {vs : List V}, Rps K H vs (ys.map D.str) → vs = ys.map V.str
  | [], _, .nil => rfl
  | y :: ys, _, .cons r t => by rw [strs_of t, r.str_of]; rfl
theorem at_inTs (ha : AV X a ρ A (.str x)) (hb : AV X b ρ A (.tup (ys.map D.str))) (hm : behindInMarks .In b = false := by rfl) : AT X (.Compare a [.In] [b] pos) ρ A (decide (x ∈ ys)) :=
  at_cmp op_in_seq hm ha hb fun v w H r1 r2 l Q q => by
    obtain ⟨p, vs, rfl, h1, h2⟩ := r2.tup_of
    rw [r1.str_of]
    have e := strs_of h2
    subst e
    refine ⟨p, _, rfl, .inr h1, rfl, by rw [List.all_map]; simp [flatV, Function.comp_def], ?_⟩
    rw [if_neg Bool.false_ne_true, inV_str]
    exact q H (TS.refl H) l
end
/-- a written dict's entries -/
def EntT (P : Params) : List DictEntry → List (Str × Str) → Prop
  | [], [] => True
  | e :: es, q :: qs => (∃ t u, e.key = .str q.1 t ∧ e.val = .str q.2 u ∧ e.hash = PyData.keyHash P q.1) ∧ EntT P es qs
  | _, _ => False
theorem entT_nil {P : Params} : EntT P [] [] := True.intro
theorem entT_cons {P : Params} {e : DictEntry} {es : List DictEntry} {q : Str × Str} {qs : List (Str × Str)} (h : ∃ t u, e.key = .str q.1 t ∧ e.val = .str q.2 u ∧ e.hash = PyData.keyHash P q.1) (r : EntT P es qs) : EntT P (e :: es) (q :: qs) := ⟨h, r⟩
theorem EntT.lit {P : Params} : ∀ {es : List DictEntry} {qs : List (Str × Str)}, EntT P es qs → PySem.W.KeysLit P es
  | [], [], _ => trivial
  | _ :: _, _ :: _, ⟨⟨t, _, h1, _, h3⟩, r⟩ => ⟨⟨_, t, h1, h3⟩, EntT.lit r⟩
  | [], _ :: _, h => h.elim
  | _ :: _, [], h => h.elim
theorem EntT.ref {P : Params} : ∀ {es : List DictEntry} {qs : List (Str × Str)}, EntT P es qs → es.any (·.refKey) = false
  | [], [], _ => rfl
  | e :: es, _ :: _, ⟨⟨t, _, h1, _, _⟩, r⟩ => by
    rw [List.any_cons, EntT.ref r, Bool.or_false]
    obtain ⟨h, k, v⟩ := e
    simp only at h1
    subst h1
    rfl
  | [], _ :: _, h => h.elim
  | _ :: _, [], h => h.elim
theorem EntT.find {P : Params} (x : Str) : ∀ {es : List DictEntry} {qs : List (Str × Str)}, EntT P es qs → (lkT qs x = none ∧ es.find? (·.key.isStr x) = none) ∨ ∃ y e t, lkT qs x = some y ∧ es.find? (·.key.isStr x) = some e ∧ e.val = .str y t
  | [], [], _ => .inl ⟨rfl, rfl⟩
  | e :: es, q :: qs, ⟨⟨t, u, h1, h2, _⟩, r⟩ => by
    by_cases hx : q.1 = x
    · refine .inr ⟨q.2, e, u, by simp [lkT, hx], ?_, h2⟩
      rw [List.find?_cons, h1, hx]
      have : (Value.str x t).isStr x = true := by simp [Value.isStr]
      rw [this]
    · have hn : (Value.str q.1 t).isStr x = false := by simp [Value.isStr, hx]
      rw [List.find?_cons, h1, hn, show lkT (q :: qs) x = lkT qs x by simp [lkT, List.find?_cons, hx]]
      exact EntT.find x r
  | [], _ :: _, h => h.elim
  | _ :: _, [], h => h.elim
theorem kdS_of {K : Frag} {w : World} {a : Addr} {es : Array DictEntry} {n : Nat} {kvs : List (Str × Str)} (hl : K.lookup a = some ⟨.type "dict", none, .dict es n, #[]⟩) (he : EntT w.params es.toList kvs) (hs : (a == sysModules) = false) : KdS K w a kvs := by
  refine ⟨⟨es, n, hl, he.lit, hs⟩, fun x h => ?_, fun x y h => ?_⟩
  · rcases he.find x with ⟨h1, h2⟩ | ⟨y, e, t, h1, _⟩
    · unfold PySem.W.nsIn
      rw [hl]
      simp only [h2, he.ref]
      rfl
    · rw [h] at h1; cases h1
  · rcases he.find x with ⟨h1, _⟩ | ⟨y2, e, t, h1, h2, h3⟩
    · rw [h] at h1; cases h1
    · rw [h] at h1
      cases h1
      refine ⟨t, ?_⟩
      unfold PySem.W.nsIn
      rw [hl]
      simp only [h2, h3]
end C7
namespace C7
open PySem PySem.Spec PyProof.Rows L2
section
variable {X : Cx} {W : WX} {ρ : Ro} {A : AH} {e o : Expr} {es : List Expr} {pos : Pos} {d : D} {k : AK} {E : AEnds} {xc : Value → AH → Prop} {C p : Addr} {f : Str} {fs : List (Str × D)} {dx : Addr}
/-- a list display whose elements may raise -/
theorem aex_lst (h : AEsx X W es ρ A xc fun ds A1 => ds.length ≤ sizeLine ∧ ∀ p, A1 p = none → k (.ref p) (aupd A1 p (.lst ds))) : AEx X W (.List es pos) ρ A xc k := fun σ H s Q q hx =>
  tm_of (pe_lst (pa_tm es)) (h σ H s _ (fun vs H1 ds A1 t1 r1 l1 h1 => ⟨by rw [r1.length]; exact h1.1, fun p hp => q (.ref p) _ _ _ (t1.trans (TS.new hp)) (.ref p) (l1.newL hp r1).2 (h1.2 p (l1.none hp))⟩) hx)
/-- what a value has of new lists is locked, the expression may raise -/
theorem AEx.frz (h : AEx X W e ρ A xc fun d A' => ∃ A0 v, Ext A0 A' ∧ Fr A0 A' d v ∧ k v A0) : AEx X W e ρ A xc k := fun σ H s Q q hx => ⟨fun pins st I =>
  thn ((h σ H s (fun v0 H' => ∃ d A' A0 v, TS H H' ∧ Rp X.K H' v0 d ∧ Rel X.K A' H' ∧ Ext A0 A' ∧ Fr A0 A' d v ∧ k v A0) (fun v0 H' d A' t r l ⟨A0, v, h1, h2, h3⟩ => ⟨d, A', A0, v, t, r, l, h1, h2, h3⟩) hx).go pins st I) fun u s' hu => by
    obtain ⟨v0, H', I', rv, d, A', A0, v, t, r, l, h1, h2, h3⟩ := hu
    obtain ⟨H1, I1, t1, r1, q1⟩ := h2.lock h1 I' l
    exact ⟨v0, H1, I1, rv, q v0 H1 v A0 (t.trans t1) (q1 H1 (TS.refl H1) _ (r.mono t1)) r1 h3⟩⟩
/-- o.f = e, e of any kind -/
theorem a1_fldE {pos' : Pos} (c : Cls X.K C) (na : NoAttr X.K C f) (h : AE X e ρ A fun d A1 => AV X o ρ A1 (.ref p) ∧ ∃ fs, A1 p = some (.ins C dx fs) ∧ fs.length < 1000 ∧ E.nx ρ (aupd A1 p (.ins C dx (putFD f d fs)))) (hs : swapsWith e (some (.Attribute o f pos')) pos.line X.env = pure false := by rfl) :
    A1 X W (.Assign [.Attribute o f pos'] e pos) ρ A E := fun σ H s D qq =>
  tm1_of (ps_fld (pe_tm o) (pe_tm e) hs) (h σ H s _ fun v H1 d A1 t1 r1 l1 ⟨ho, fs, hl, hn, q⟩ => ho σ H1 (s.mono t1 l1) _ fun u H2 t2 r2 l2 => by
    obtain ⟨gs, e1, e2⟩ := l2.ins hl
    have t3 : TS H2 (upd H2 p (.ins C dx (putF f v gs))) := TS.put e1 (fun _ z => nomatch z) (fun _ _ z => nomatch z)
    have l3 : Rel X.K (aupd A1 p (.ins C dx (putFD f d fs))) (upd H2 p (.ins C dx (putF f v gs))) := l2.put e1 (fun _ z => nomatch z) (fun _ _ z => nomatch z) ⟨_, rfl, Paired.mapP (fd_put (r1.mono t2) e2) fun _ _ z => ⟨z.1, z.2.mono t3⟩⟩
    exact ⟨p, C, dx, gs, r2.ref_of, e1, c, na, by rw [Paired.length e2]; exact hn, qq.nx ρ _ σ _ ((t1.trans t2).trans t3) (s.mono ((t1.trans t2).trans t3) l3) q⟩)
end
section
variable {X : Cx} {ρ : Ro} {A : AH} {pos p0 : Pos} {k : AK} {C : Addr} {n : Str} {lv : Nat} {ct : Ct}
theorem pe_mkX0 {CX : CXT} {fa : Addr} {fd : FuncData} {ps : List Str} {sp : Sp} {E : L2.St → XK} (M : Mk X.K C fa) (F : FnOk X.prog X.w X.K X.mg X.base CX lv fa fd ps sp) (hr : Room (lv + 1) X.A) (hg : Gl X n) (hm : X.mg n = some (.ref C)) (hb : Binds X.K fd ps []) (hx : ∀ σ, PassesAt CX X σ (E σ))
    (hdb : (n == ("__debug__" : Str)) = false := by decide) : PE X (.Call (.Name n p0) [] [] pos) (tMkX C sp E tNil) :=
  ⟨fun pins s σ H Q I h => wpAny_Call_Name_kw (ld_glob I hg hm (PySem.W.callWith_K0 I.kIn M.kp (run_mkX (us := []) M F hr hb (hx σ) I .nil h)) hdb)⟩
/-- C() -/
theorem ae_mk0 (F : Ini X.prog X.w X.K X.mg X.base C lv ct) (hm : X.mg n = some (.ref C)) (hr : Room (lv + 1) X.A) (hg : Gl X n) (h : ∀ x y, A x = none → ct [.ref x] (aupd A x (.ins C y [])) (fun d A2 => d = .non ∧ k (.ref x) A2) fun _ _ => False)
    (hdb : (n == ("__debug__" : Str)) = false := by decide) : AE X (.Call (.Name n p0) [] [] pos) ρ A k := fun σ H s Q q => by
  obtain ⟨f, fd, ps, F, M, hb⟩ := F.ex
  refine tm_of (pe_mkX0 (E := fun _ => E0) M F hr hg hm hb (fun σ => fun pins H s e s' I c => passN pins σ H s e s' I c) hdb) (fun x y hx hy ne => ?_)
  obtain ⟨t2, l2⟩ := mkT (vs := []) (C := C) s.hp hx hy ne
  exact ⟨[.ref x], _, _, fun _ _ => False, .one (.ref x), l2, h x y (s.hp.none hx), fun v H' d A' t3 r3 l3 ⟨ed, k3⟩ => ⟨by rw [ed] at r3; exact r3.non_of, q _ H' _ A' (t2.trans t3) (.ref x) l3 k3⟩, fun _ _ _ _ _ z => z⟩
end
end C7
namespace C7
open PySem PySem.Spec PyProof.Rows L2
theorem ae_ifx {X : Cx} {ρ : Ro} {A : AH} {c a b : Expr} {pos : Pos} {k : AK} (h : AET X c ρ A fun bb A1 => (bb = true → AE X a ρ A1 k) ∧ (bb = false → AE X b ρ A1 k)) : AE X (.IfExp c a b pos) ρ A k := fun σ H s Q q =>
  tm_of (pe_ifExp (pt_tm c) (pe_tm a) (pe_tm b)) (h σ H s _ fun bb H1 A1 t1 l1 hb => by
    cases bb with
    | true => exact iteT (hb.1 rfl σ H1 (s.mono t1 l1) Q fun v2 H2 d2 A2 t2 r2 l2 k2 => q v2 H2 d2 A2 (t1.trans t2) r2 l2 k2)
    | false => exact iteF (hb.2 rfl σ H1 (s.mono t1 l1) Q fun v2 H2 d2 A2 t2 r2 l2 k2 => q v2 H2 d2 A2 (t1.trans t2) r2 l2 k2))
theorem Mt.up {P : Program} {w : World} {K : Frag} {mg : Str → Option Value} {base : Heap} {C : Addr} {m : Str} {j k : Nat} {ct : Ct} (F : Mt P w K mg base C m j ct) (h : j ≤ k) : Mt P w K mg base C m k ct :=
  let ⟨f, fd, ps, F, r⟩ := F.ex; ⟨f, fd, ps, F.mono h, r⟩
/-! texts in order: two sorted lists of the same texts are one -/
theorem lt_total : ∀ {a b : List Nat}, ltCps a b = false → ltCps b a = false → a = b
  | [], [], _, _ => rfl
  | [], _ :: _, h, _ => nomatch h
  | _ :: _, [], _, h => nomatch h
  | a :: r, b :: t, h, g => by
    simp only [ltCps, Bool.or_eq_false_iff, Bool.and_eq_false_iff, decide_eq_false_iff_not, beq_eq_false_iff_ne] at h g
    have e : a = b := by omega
    subst e
    rw [lt_total (a := r) (b := t) (h.2.elim (fun z => absurd rfl z) id) (g.2.elim (fun z => absurd rfl z) id)]
theorem le_trans' : ∀ {a b c : List Nat}, ltCps b a = false → ltCps c b = false → ltCps c a = false
  | [], _, [], _, _ => rfl
  | _ :: _, [], _, h, _ => nomatch h
  | _, _ :: _, [], _, h => nomatch h
  | [], _, _ :: _, _, _ => rfl
  | a :: r, b :: t, c :: u, h, g => by
    simp only [ltCps, Bool.or_eq_false_iff, Bool.and_eq_false_iff, decide_eq_false_iff_not, beq_eq_false_iff_ne] at h g ⊢
    refine ⟨by omega, ?_⟩
    by_cases e : c = a
    · right
      have e1 : b = a := by omega
      have e2 : c = b := by omega
      exact le_trans' (h.2.elim (fun z => absurd e1 z) id) (g.2.elim (fun z => absurd e2 z) id)
    · exact .inl e
theorem rising_all : ∀ {l : List Str} {p : Str}, risingS p l = true → (∀ x ∈ l, ltCps x.cps.toList p.cps.toList = false) ∧ sortedS l = true
  | [], _, _ => ⟨(fun x h => nomatch h), rfl⟩
  | y :: r, p, h => by
    have h : (!ltCps y.cps.toList p.cps.toList && risingS y r) = true := h
    rw [Bool.and_eq_true, Bool.not_eq_true'] at h
    obtain ⟨h1, h2⟩ := rising_all h.2
    refine ⟨fun x hx => ?_, h.2⟩
    rcases List.mem_cons.mp hx with rfl | hx
    · exact h.1
    · exact le_trans' h.1 (h1 x hx)
theorem sorted_one : ∀ {xs ys : List Str}, xs.Perm ys → sortedS xs = true → sortedS ys = true → xs = ys
  | [], ys, hp, _, _ => hp.nil_eq
  | x :: xs, [], hp, _, _ => nomatch hp.length_eq
  | x :: xs, y :: ys, hp, h, g => by
    have hx := rising_all (p := x) (l := xs) h
    have hy := rising_all (p := y) (l := ys) g
    have e : x = y := by
      have m1 : x ∈ y :: ys := hp.mem_iff.mp (List.mem_cons_self ..)
      have m2 : y ∈ x :: xs := hp.mem_iff.mpr (List.mem_cons_self ..)
      rcases List.mem_cons.mp m1 with e | m1
      · exact e
      rcases List.mem_cons.mp m2 with e | m2
      · exact e.symm
      · exact TL.ext_tl (lt_total (hy.1 x m1) (hx.1 y m2))
    subst e
    rw [sorted_one ((List.perm_cons x).mp hp) hx.2 hy.2]
theorem lt_asymm : ∀ {a b : List Nat}, ltCps a b = true → ltCps b a = false
  | [], [], h => nomatch h
  | [], _ :: _, _ => rfl
  | _ :: _, [], h => nomatch h
  | a :: r, b :: t, h => by
    simp only [ltCps, Bool.or_eq_true, Bool.and_eq_true, decide_eq_true_eq, beq_iff_eq] at h
    simp only [ltCps, Bool.or_eq_false_iff, Bool.and_eq_false_iff, decide_eq_false_iff_not, beq_eq_false_iff_ne]
    refine ⟨by omega, ?_⟩
    by_cases e : b = a
    · right
      exact lt_asymm (h.elim (fun z => absurd z (by omega)) (·.2))
    · exact .inl e
def insS (x : Str) : List Str → List Str
  | [] => [x]
  | y :: r => if ltCps y.cps.toList x.cps.toList = true then y :: insS x r else x :: y :: r
theorem insS_perm (x : Str) : ∀ l : List Str, (insS x l).Perm (x :: l)
  | [] => .refl _
  | y :: r => by
    unfold insS
    split
    · exact (List.Perm.cons y (insS_perm x r)).trans (List.Perm.swap x y r)
    · exact .refl _
theorem insS_rising {x : Str} : ∀ {l : List Str} {p : Str}, risingS p l = true → ltCps x.cps.toList p.cps.toList = false → risingS p (insS x l) = true
  | [], p, _, h => by
    show (!ltCps x.cps.toList p.cps.toList && true) = true
    rw [h]; rfl
  | y :: r, p, hr, h => by
    have hr : (!ltCps y.cps.toList p.cps.toList && risingS y r) = true := hr
    rw [Bool.and_eq_true] at hr
    unfold insS
    split
    · rename_i h9
      show (!ltCps y.cps.toList p.cps.toList && risingS y (insS x r)) = true
      rw [hr.1, insS_rising hr.2 (lt_asymm h9)]; rfl
    · rename_i h9
      show (!ltCps x.cps.toList p.cps.toList && (!ltCps y.cps.toList x.cps.toList && risingS y r)) = true
      rw [h, Bool.eq_false_iff.mpr h9, hr.2]; rfl
theorem insS_sorted (x : Str) : ∀ {l : List Str}, sortedS l = true → sortedS (insS x l) = true
  | [], _ => rfl
  | y :: r, h => by
    unfold insS
    split
    · rename_i h9
      exact insS_rising (p := y) h (lt_asymm h9)
    · rename_i h9
      show (!ltCps y.cps.toList x.cps.toList && risingS y r) = true
      rw [Bool.eq_false_iff.mpr h9]
      exact h
theorem sorted_ex : ∀ ns : List Str, ∃ ys : List Str, ys.Perm ns ∧ sortedS ys = true
  | [] => ⟨[], .refl _, rfl⟩
  | x :: r => by
    obtain ⟨ys, h1, h2⟩ := sorted_ex r
    exact ⟨insS x ys, (insS_perm x ys).trans (List.Perm.cons x h1), insS_sorted x h2⟩
/-- the names in order -/
noncomputable def srtN (ns : List Str) : List Str := by
  classical
  exact if h : ∃ ys : List Str, ys.Perm ns ∧ sortedS ys = true then h.choose else []
theorem srtN_of {ns ys : List Str} (hp : ys.Perm ns) (hs : sortedS ys = true) : srtN ns = ys := by
  have h : ∃ ys : List Str, ys.Perm ns ∧ sortedS ys = true := ⟨ys, hp, hs⟩
  unfold srtN
  rw [dif_pos h]
  exact sorted_one (h.choose_spec.1.trans hp.symm) h.choose_spec.2 hs
theorem srtN_mem {ns : List Str} {x : Str} (h : x ∈ srtN ns) : x ∈ ns := by
  unfold srtN at h
  split at h
  · rename_i h9
    exact h9.choose_spec.1.mem_iff.mp h
  · cases h
theorem srtN_le (ns : List Str) : (srtN ns).length ≤ ns.length := by
  unfold srtN
  split
  · rename_i h9
    exact Nat.le_of_eq h9.choose_spec.1.length_eq
  · exact Nat.zero_le _
theorem srtN_perm (ns : List Str) : (srtN ns).Perm ns := by
  obtain ⟨ys, h1, h2⟩ := sorted_ex ns
  rw [srtN_of h1 h2]
  exact h1
theorem srtN_len (ns : List Str) : (srtN ns).length = ns.length := (srtN_perm ns).length_eq
section
variable {X : Cx} {ρ : Ro} {A : AH} {a b : Expr} {pos : Pos} {k : AK} {kt : Bool → AH → Prop}
theorem ae_eqS (h : AE X a ρ A fun d A1 => ∃ x, d = .str x ∧ AE X b ρ A1 fun d2 A2 => ∃ y, d2 = .str y ∧ k (.bl (decide (x = y))) A2) : AE X (.Compare a [.Eq] [b] pos) ρ A k :=
  ae_cmpE op_eq (nomark _) (h.mono fun d A1 ⟨x, e1, h1⟩ => h1.mono fun d2 A2 ⟨y, e2, h2⟩ v u H r1 r2 l Q q => by
    subst e1; subst e2
    exact cmpEqS v u H r1 r2 l Q fun H' t l' => q _ H' _ A2 t (.bl _) l' h2)
theorem aet_eqS (h : AE X a ρ A fun d A1 => ∃ x, d = .str x ∧ AE X b ρ A1 fun d2 A2 => ∃ y, d2 = .str y ∧ kt (decide (x = y)) A2) : AET X (.Compare a [.Eq] [b] pos) ρ A kt :=
  aet_cmp op_eq (nomark _) (h.mono fun d A1 ⟨x, e1, h1⟩ => h1.mono fun d2 A2 ⟨y, e2, h2⟩ v u H r1 r2 l Q q => by
    subst e1; subst e2
    exact cmpEqS v u H r1 r2 l Q fun H' t l' => q _ H' A2 t l' h2)
theorem aet_neS (h : AE X a ρ A fun d A1 => ∃ x, d = .str x ∧ AE X b ρ A1 fun d2 A2 => ∃ y, d2 = .str y ∧ kt (!decide (x = y)) A2) : AET X (.Compare a [.NotEq] [b] pos) ρ A kt :=
  aet_cmp op_ne (nomark _) (h.mono fun d A1 ⟨x, e1, h1⟩ => h1.mono fun d2 A2 ⟨y, e2, h2⟩ v u H r1 r2 l Q q => by
    subst e1; subst e2
    exact cmpNeS v u H r1 r2 l Q fun H' t l' => q _ H' A2 t l' h2)
end
theorem aupd_self {A : AH} {p : Addr} {o : AO} (h : A p = some o) : aupd A p o = A := by
  funext b
  unfold aupd
  split
  · rename_i e; rw [e, h]
  · rfl
theorem aupd_comm {A : AH} {p q : Addr} {o u : AO} (h : p ≠ q) : aupd (aupd A p o) q u = aupd (aupd A q u) p o := by
  funext b
  unfold aupd
  by_cases h1 : b = p
  · subst h1
    rw [if_neg h, if_pos rfl, if_pos rfl]
  · by_cases h2 : b = q
    · subst h2; rw [if_pos rfl, if_neg h1, if_pos rfl]
    · rw [if_neg h2, if_neg h1, if_neg h1, if_neg h2]
section
variable {X : Cx} {ρ : Ro} {A : AH} {a : Expr} {pos p0 : Pos} {kvs : List (Str × D)} {p : Addr}
/-- sorted(d), by value -/
theorem av_sortedN (hc : X.calm = true) (hg : Gl X "sorted") (hm : X.mg "sorted" = none) (ha : AV X a ρ A (.ref p)) (hl : A p = some (dkS kvs)) (h64 : kvs.length < 64) (hs : starEach [a] X.env = [(false, eval a X.env)] := by rfl) :
    AV X (.Call (.Name "sorted" p0) [a] [] pos) ρ A (.fz ((srtN (kvs.map (·.1))).map D.str)) :=
  AE.av (AE.frz (al_sortedS hc hg hm ha hl h64 (fun ys hp9 hs9 z hz => ⟨A, _, Ext.new hz, .lst hz aupd_same (Frs.refl _), by rw [srtN_of hp9 hs9], Ext.refl _⟩) hs))
/-- d != {}, as a test -/
theorem aet_neD {lv : Nat} {a : Expr} {bpos : Pos} {kt : Bool → AH → Prop} (hr : Room lv X.A) (ha : AV X a ρ A (.ref p)) (hl : A p = some (dkS kvs)) (q : ∀ A', Ext A A' → kt (!kvs.isEmpty) A') : AET X (.Compare a [.NotEq] [.Dict [] [] bpos] pos) ρ A kt :=
  aet_cmp (op_neE (by have := hr.units; omega)) (nomark _) (ha.ae (ae_dictS fun z hz v u H r1 r2 l Q qq => by
    have hne : p ≠ z := fun e => by rw [e, hz] at hl; cases hl
    obtain ⟨gs, e1, e2⟩ := l.dS (p := p) (kvs := kvs) (by rw [aupd_ne hne]; exact hl)
    obtain ⟨gs0, e3, e4⟩ := l.dS (p := z) (kvs := []) aupd_same
    cases e4
    rw [r1.ref_of, r2.ref_of]
    have hb : (!gs.isEmpty) = !kvs.isEmpty := by
      have := len_pairS e2
      cases gs <;> cases kvs <;> simp_all
    exact ⟨p, z, gs, rfl, rfl, e1, e3, qq _ H _ (TS.refl H) l (by rw [hb]; exact q _ (Ext.new hz))⟩))
end
end C7
namespace C7
open PySem PySem.Spec PyProof.Rows L2
/-! ### a dict keyed by texts is walked: it is locked meanwhile -/
theorem TS.un {H : Hp} {p : Addr} {gs : List (Key × V)} {o : Obj} {u : HO} (h : H p = some (.frz o (.dK gs))) : TS H (upd H p u) :=
  ⟨fun a xs e => by
    have ne : a ≠ p := fun z => by subst z; rw [h] at e; cases e
    rw [upd_ne ne]; exact e, fun a x v e n => by
    have ne : a ≠ p := fun z => by subst z; rw [h] at e; cases e; exact n _ rfl
    rw [upd_ne ne]; exact e⟩
theorem Rel.lk {K : Frag} {A : AH} {H : Hp} {p : Addr} {kvs : List (Str × D)} (r : Rel K A H) (h : A p = some (dkS kvs)) : ∃ gs, H p = some (.dK gs) ∧ ∀ o, TS H (upd H p (.frz o (.dK gs))) ∧ Rel K (aupd A p (.dZ o gs (kvs.map keyS))) (upd H p (.frz o (.dK gs))) := by
  obtain ⟨gs, h1, h2⟩ := r.dS h
  refine ⟨gs, h1, fun o => ?_⟩
  have t : TS H (upd H p (.frz o (.dK gs))) := TS.put h1 (fun _ z => nomatch z) (fun _ _ z => nomatch z)
  exact ⟨t, r.put h1 (fun _ z => nomatch z) (fun _ _ z => nomatch z) ⟨rfl, Paired.mapP h2 fun _ _ z => ⟨z.1, z.2.mono t⟩⟩⟩
theorem Rel.zd {K : Frag} {A : AH} {H : Hp} {p : Addr} {o : Obj} {gs : List (Key × V)} {kv : List (Key × D)} (r : Rel K A H) (h : A p = some (.dZ o gs kv)) : H p = some (.frz o (.dK gs)) ∧ Paired (EnS K H) gs kv := by
  obtain ⟨u, h1, e, h2⟩ := r p _ h
  subst e
  exact ⟨h1, h2⟩
theorem Rel.un {K : Frag} {A : AH} {H : Hp} {p : Addr} {o : Obj} {gs : List (Key × V)} {kvs : List (Str × D)} (r : Rel K A H) (h : A p = some (.dZ o gs (kvs.map keyS))) : H p = some (.frz o (.dK gs)) ∧ Rel K (aupd A p (dkS kvs)) (upd H p (.dK gs)) := by
  obtain ⟨h1, h2⟩ := r.zd h
  refine ⟨h1, fun a o' e => ?_⟩
  have t : TS H (upd H p (.dK gs)) := TS.un h1
  by_cases ha : a = p
  · subst ha
    rw [aupd_same] at e
    cases e
    exact ⟨_, upd_same, gs, rfl, Paired.mapP h2 fun _ _ z => ⟨z.1, z.2.mono t⟩⟩
  · rw [aupd_ne ha] at e
    obtain ⟨u, h3, h4⟩ := r a o' e
    exact ⟨u, by rw [upd_ne ha]; exact h3, h4.mono t⟩
section
variable {X : Cx} {W : WX} {ρ : Ro} {A : AH} {E : AEnds} {st : Stmt} {p : Addr} {kvs : List (Str × D)}
theorem a1_lock (hl : A p = some (dkS kvs)) (h : ∀ o gs, A1 X W st ρ (aupd A p (.dZ o gs (kvs.map keyS)))
    { nx := fun ρ' A' => A' p = some (.dZ o gs (kvs.map keyS)) ∧ E.nx ρ' (aupd A' p (dkS kvs)), rt := fun d A' => A' p = some (.dZ o gs (kvs.map keyS)) ∧ E.rt d (aupd A' p (dkS kvs)),
      bk := fun ρ' A' => A' p = some (.dZ o gs (kvs.map keyS)) ∧ E.bk ρ' (aupd A' p (dkS kvs)), ct := fun ρ' A' => A' p = some (.dZ o gs (kvs.map keyS)) ∧ E.ct ρ' (aupd A' p (dkS kvs)) }) : A1 X W st ρ A E := fun σ H s D q => by
  obtain ⟨gs, hg, hR⟩ := s.hp.lk hl
  refine tm1_of (ps_lock (ps_tm st)) ⟨p, .dK gs, hg, trivial, fun od => ?_⟩
  obtain ⟨t0, r0⟩ := hR od
  exact h od gs σ _ (s.mono t0 r0) _ ⟨fun ρ' A' σ' H' t s' ⟨e, k⟩ => by
      obtain ⟨h1, r1⟩ := s'.hp.un e
      exact ⟨h1, q.nx _ _ _ _ ((t0.trans t).trans (TS.un h1)) (s'.mono (TS.un h1) r1) k⟩,
    fun d A' v H' t l r ⟨e, k⟩ => by
      obtain ⟨h1, r1⟩ := l.un e
      exact ⟨h1, q.rt _ _ _ _ ((t0.trans t).trans (TS.un h1)) r1 (r.mono (TS.un h1)) k⟩,
    fun ρ' A' σ' H' t s' ⟨e, k⟩ => by
      obtain ⟨h1, r1⟩ := s'.hp.un e
      exact ⟨h1, q.bk _ _ _ _ ((t0.trans t).trans (TS.un h1)) (s'.mono (TS.un h1) r1) k⟩,
    fun ρ' A' σ' H' t s' ⟨e, k⟩ => by
      obtain ⟨h1, r1⟩ := s'.hp.un e
      exact ⟨h1, q.ct _ _ _ _ ((t0.trans t).trans (TS.un h1)) (s'.mono (TS.un h1) r1) k⟩,
    fun c ρ' A' σ' H' t s' k => k.elim⟩
theorem pair_nth {K : Frag} {H : Hp} : ∀ {kvs : List (Str × D)} {gs : List (Key × V)} {i : Nat} {k : Key} {v : V} (d0 : Str × D), Paired (EnS K H) gs (kvs.map keyS) → gs[i]? = some (k, v) → k = Sum.inr (kvs.getD i d0).1
  | [], _, i, _, _, _, .nil, e => by simp at e
  | q :: kvs, p :: gs, 0, k, v, d0, .cons h t, e => by
    have e : p = (k, v) := by simpa using e
    subst e
    exact h.1
  | q :: kvs, p :: gs, i + 1, k, v, d0, .cons h t, e => by
    have e : gs[i]? = some (k, v) := by simpa using e
    show k = Sum.inr (kvs.getD i d0).1
    exact pair_nth (kvs := kvs) (gs := gs) (i := i) d0 t e
theorem wk_keys {K : Frag} {H0 : Hp} {p : Addr} {o : Obj} {gs : List (Key × V)} {kvs : List (Str × D)} (hz : gs.length = kvs.length) : Wk K H0 (Itk p o gs) (fun A => A p = some (.dZ o gs (kvs.map keyS))) kvs.length (fun i => .str (kvs.getD i (default, .non)).1) where
  go := fun i H A hi t r g => by
    obtain ⟨h1, h2⟩ := r.zd g
    exact ⟨h1, by omega⟩
  yl := fun i H A x H' hi t r g ⟨e, k, v, h3, h4⟩ => by
    subst e
    obtain ⟨h1, h2⟩ := r.zd g
    have := pair_nth (default, .non) h2 h3
    subst this
    subst h4
    exact ⟨TS.refl _, r, .str _⟩
  st := fun H A t r g => by
    obtain ⟨h1, h2⟩ := r.zd g
    exact ⟨h1, by omega⟩
theorem ai_keysZ {tg a : Expr} {kI : AH → (AH → Prop) → Nat → (Nat → D) → Prop} {o : Obj} {gs : List (Key × V)} (h : AV X a ρ A (.ref p)) (hl : A p = some (.dZ o gs (kvs.map keyS)))
    (q : kI A (fun A' => A' p = some (.dZ o gs (kvs.map keyS))) kvs.length (fun i => .str (kvs.getD i (default, .non)).1)) : AI X tg a ρ A kI := fun σ H s R qq =>
  tmi_of (pi_keys (pe_tm a)) (h σ H s _ fun v H1 t1 r1 l1 => by
    rw [r1.ref_of]
    obtain ⟨e1, e2⟩ := l1.zd hl
    exact ⟨p, o, rfl, .inl ⟨gs, e1, qq _ H1 A _ _ _ t1 l1 (wk_keys (len_pairS e2)) q⟩⟩)
theorem av_ixZ {lv : Nat} {a b : Expr} {pos : Pos} {o : Obj} {gs : List (Key × V)} {x : Str} {d : D} (hr : Room lv X.A) (ha : AV X a ρ A (.ref p)) (hb : AV X b ρ A (.str x)) (hl : A p = some (.dZ o gs (kvs.map keyS))) (h : lkS kvs x = some d) (hs : NoSl b := by intro _ _; rfl) : AV X (.Subscript a b pos) ρ A d := fun σ H s Q q =>
  tm_of (pe_dget (ru hr) (pe_tm a) (pe_tm b) hs) (ha σ H s _ fun v H1 t1 r1 l1 => hb σ H1 (s.mono t1 l1) _ fun u H2 t2 r2 l2 => by
    rw [r1.ref_of, r2.str_of]
    obtain ⟨e1, e2⟩ := l2.zd hl
    rcases lk_pairS (x := x) e2 with ⟨h1, h2⟩ | ⟨d2, v2, h1, h2, h3⟩
    · rw [h] at h1; cases h1
    · rw [h] at h1
      cases h1
      exact ⟨p, v2, rfl, .inl ⟨gs, Sum.inr x, .inr ⟨o, e1⟩, rfl, h2.symm⟩, q v2 H2 (t1.trans t2) h3 l2⟩)
end
end C7
namespace Lw
open PySem PySem.Spec PyProof.Rows L2 C7
def topS (i : Nat) : Stmt := PySem.Challenge.pw_curveseat_k82_rows_answered.main.body.getD i (.Pass ⟨0, 0, 0, 0⟩)
abbrev s_common_part : Stmt := topS 8
theorem sc_common_part : FnScope ["one", "other", "whole", "rest"] ["one", "other"] (defScope s_common_part) := ⟨rfl, rfl, rfl, by decide +kernel, rfl, by decide +kernel, by decide +kernel⟩
abbrev s_share : Stmt := topS 9
theorem sc_share : FnScope ["top", "bottom", "part"] ["top", "bottom"] (defScope s_share) := ⟨rfl, rfl, rfl, by decide +kernel, rfl, by decide +kernel, by decide +kernel⟩
abbrev s_plus : Stmt := topS 10
theorem sc_plus : FnScope ["one", "other"] ["one", "other"] (defScope s_plus) := ⟨rfl, rfl, rfl, by decide +kernel, rfl, by decide +kernel, by decide +kernel⟩
abbrev s_minus : Stmt := topS 11
theorem sc_minus : FnScope ["one", "other"] ["one", "other"] (defScope s_minus) := ⟨rfl, rfl, rfl, by decide +kernel, rfl, by decide +kernel, by decide +kernel⟩
abbrev s_times : Stmt := topS 12
theorem sc_times : FnScope ["one", "other"] ["one", "other"] (defScope s_times) := ⟨rfl, rfl, rfl, by decide +kernel, rfl, by decide +kernel, by decide +kernel⟩
abbrev s_under : Stmt := topS 13
theorem sc_under : FnScope ["one", "other"] ["one", "other"] (defScope s_under) := ⟨rfl, rfl, rfl, by decide +kernel, rfl, by decide +kernel, by decide +kernel⟩
abbrev s_between : Stmt := topS 14
theorem sc_between : FnScope ["one", "other", "t"] ["one", "other", "t"] (defScope s_between) := ⟨rfl, rfl, rfl, by decide +kernel, rfl, by decide +kernel, by decide +kernel⟩
abbrev s_on_way : Stmt := topS 16
theorem sc_on_way : FnScope ["one", "other", "t"] ["one", "other", "t"] (defScope s_on_way) := ⟨rfl, rfl, rfl, by decide +kernel, rfl, by decide +kernel, by decide +kernel⟩
abbrev s_step : Stmt := topS 17
theorem sc_step : FnScope ["one", "other"] ["one", "other"] (defScope s_step) := ⟨rfl, rfl, rfl, by decide +kernel, rfl, by decide +kernel, by decide +kernel⟩
abbrev s_moved : Stmt := topS 18
theorem sc_moved : FnScope ["place", "by", "many"] ["place", "by", "many"] (defScope s_moved) := ⟨rfl, rfl, rfl, by decide +kernel, rfl, by decide +kernel, by decide +kernel⟩
abbrev s_next_row : Stmt := topS 21
theorem sc_next_row : FnScope ["row", "t", "k"] ["row", "t"] (defScope s_next_row) := ⟨rfl, rfl, rfl, by decide +kernel, rfl, by decide +kernel, by decide +kernel⟩
abbrev s_rows : Stmt := topS 22
theorem sc_rows : FnScope ["curve", "t", "found"] ["curve", "t"] (defScope s_rows) := ⟨rfl, rfl, rfl, by decide +kernel, rfl, by decide +kernel, by decide +kernel⟩
abbrev s_point : Stmt := topS 23
theorem sc_point : FnScope ["curve", "t"] ["curve", "t"] (defScope s_point) := ⟨rfl, rfl, rfl, by decide +kernel, rfl, by decide +kernel, by decide +kernel⟩
abbrev s_ways : Stmt := topS 24
theorem sc_ways : FnScope ["n", "found", "k"] ["n"] (defScope s_ways) := ⟨rfl, rfl, rfl, by decide +kernel, rfl, by decide +kernel, by decide +kernel⟩
abbrev s_sum_of : Stmt := topS 25
theorem sc_sum_of : FnScope ["points", "shares", "found", "place", "part"] ["points", "shares"] (defScope s_sum_of) := ⟨rfl, rfl, rfl, by decide +kernel, rfl, by decide +kernel, by decide +kernel⟩
abbrev s_polar : Stmt := topS 26
theorem sc_polar : FnScope ["curve", "shares", "row", "t"] ["curve", "shares"] (defScope s_polar) := ⟨rfl, rfl, rfl, by decide +kernel, rfl, by decide +kernel, by decide +kernel⟩
abbrev s_cut : Stmt := topS 28
theorem sc_cut : FnScope ["curve", "t", "told", "row"] ["curve", "t"] (defScope s_cut) := ⟨rfl, rfl, rfl, by decide +kernel, rfl, by decide +kernel, by decide +kernel⟩
abbrev s_stretch : Stmt := topS 29
theorem sc_stretch : FnScope ["curve", "s", "t", "many", "k"] ["curve", "s", "t"] (defScope s_stretch) := ⟨rfl, rfl, rfl, by decide +kernel, rfl, by decide +kernel, by decide +kernel⟩
abbrev s_turned : Stmt := topS 30
theorem sc_turned : FnScope ["curve"] ["curve"] (defScope s_turned) := ⟨rfl, rfl, rfl, by decide +kernel, rfl, by decide +kernel, by decide +kernel⟩
abbrev s_whole_points : Stmt := topS 32
theorem sc_whole_points : FnScope ["points", "bottom", "place", "one", "found", "x", "y"] ["points"] (defScope s_whole_points) := ⟨rfl, rfl, rfl, by decide +kernel, rfl, by decide +kernel, by decide +kernel⟩
abbrev s_goes_left : Stmt := topS 33
theorem sc_goes_left : FnScope ["one", "other", "third", "ahead"] ["one", "other", "third"] (defScope s_goes_left) := ⟨rfl, rfl, rfl, by decide +kernel, rfl, by decide +kernel, by decide +kernel⟩
abbrev s_chain : Stmt := topS 34
theorem sc_chain : FnScope ["some", "found", "place"] ["some"] (defScope s_chain) := ⟨rfl, rfl, rfl, by decide +kernel, rfl, by decide +kernel, by decide +kernel⟩
abbrev s_hull_of_whole : Stmt := topS 35
theorem sc_hull_of_whole : FnScope ["some", "order"] ["some"] (defScope s_hull_of_whole) := ⟨rfl, rfl, rfl, by decide +kernel, rfl, by decide +kernel, by decide +kernel⟩
abbrev s_hull : Stmt := topS 36
theorem sc_hull : FnScope ["points", "bottom", "some", "x", "y"] ["points"] (defScope s_hull) := ⟨rfl, rfl, rfl, by decide +kernel, rfl, by decide +kernel, by decide +kernel⟩
abbrev s_least_of : Stmt := topS 37
theorem sc_least_of : FnScope ["some", "found", "one"] ["some"] (defScope s_least_of) := ⟨rfl, rfl, rfl, by decide +kernel, rfl, by decide +kernel, by decide +kernel⟩
abbrev s_greatest_of : Stmt := topS 38
theorem sc_greatest_of : FnScope ["some", "found", "one"] ["some"] (defScope s_greatest_of) := ⟨rfl, rfl, rfl, by decide +kernel, rfl, by decide +kernel, by decide +kernel⟩
abbrev s_box : Stmt := topS 39
theorem sc_box : FnScope ["points", "widths", "heights", "place"] ["points"] (defScope s_box) := ⟨rfl, rfl, rfl, by decide +kernel, rfl, by decide +kernel, by decide +kernel⟩
abbrev s_speed : Stmt := topS 41
theorem sc_speed : FnScope ["curve", "many", "found", "one", "other", "across", "up"] ["curve"] (defScope s_speed) := ⟨rfl, rfl, rfl, by decide +kernel, rfl, by decide +kernel, by decide +kernel⟩
abbrev s_smoothness : Stmt := topS 43
theorem sc_smoothness : FnScope ["one", "other", "most", "found"] ["one", "other", "most"] (defScope s_smoothness) := ⟨rfl, rfl, rfl, by decide +kernel, rfl, by decide +kernel, by decide +kernel⟩
abbrev s_blend : Stmt := topS 45
theorem sc_blend : FnScope ["one", "other", "here", "there"] ["one", "other", "here", "there"] (defScope s_blend) := ⟨rfl, rfl, rfl, by decide +kernel, rfl, by decide +kernel, by decide +kernel⟩
abbrev s_map_point : Stmt := topS 46
theorem sc_map_point : FnScope ["by", "place", "a", "b", "c", "d", "e", "f", "x", "y"] ["by", "place"] (defScope s_map_point) := ⟨rfl, rfl, rfl, by decide +kernel, rfl, by decide +kernel, by decide +kernel⟩
abbrev s_mapped : Stmt := topS 47
theorem sc_mapped : FnScope ["curve", "by", "place"] ["curve", "by"] (defScope s_mapped) := ⟨rfl, rfl, rfl, by decide +kernel, rfl, by decide +kernel, by decide +kernel⟩
abbrev s_turn_of : Stmt := topS 50
theorem sc_turn_of : FnScope ["one", "other"] ["one", "other"] (defScope s_turn_of) := ⟨rfl, rfl, rfl, by decide +kernel, rfl, by decide +kernel, by decide +kernel⟩
abbrev s_along : Stmt := topS 51
theorem sc_along : FnScope ["one", "other"] ["one", "other"] (defScope s_along) := ⟨rfl, rfl, rfl, by decide +kernel, rfl, by decide +kernel, by decide +kernel⟩
abbrev s_steps_between : Stmt := topS 52
theorem sc_steps_between : FnScope ["some", "others", "found", "i", "one", "j", "other"] ["some", "others"] (defScope s_steps_between) := ⟨rfl, rfl, rfl, by decide +kernel, rfl, by decide +kernel, by decide +kernel⟩
abbrev s_ahead_of : Stmt := topS 53
theorem sc_ahead_of : FnScope ["one"] ["one"] (defScope s_ahead_of) := ⟨rfl, rfl, rfl, by decide +kernel, rfl, by decide +kernel, by decide +kernel⟩
abbrev s_ahead_of_two : Stmt := topS 54
theorem sc_ahead_of_two : FnScope ["one", "other", "turn", "way"] ["one", "other"] (defScope s_ahead_of_two) := ⟨rfl, rfl, rfl, by decide +kernel, rfl, by decide +kernel, by decide +kernel⟩
abbrev s_ahead_of_all : Stmt := topS 55
theorem sc_ahead_of_all : FnScope ["corners", "k", "corner", "last"] ["corners"] (defScope s_ahead_of_all) := ⟨rfl, rfl, rfl, by decide +kernel, rfl, by decide +kernel, by decide +kernel⟩
abbrev s_parts_of_two : Stmt := topS 56
theorem sc_parts_of_two : FnScope ["one", "other", "far", "near"] ["one", "other"] (defScope s_parts_of_two) := ⟨rfl, rfl, rfl, by decide +kernel, rfl, by decide +kernel, by decide +kernel⟩
abbrev s_parts_of : Stmt := topS 57
theorem sc_parts_of : FnScope ["corners", "first", "k", "one", "other", "parts", "part"] ["corners"] (defScope s_parts_of) := ⟨rfl, rfl, rfl, by decide +kernel, rfl, by decide +kernel, by decide +kernel⟩
abbrev s_line_by : Stmt := topS 58
theorem sc_line_by : FnScope ["way", "some", "others", "bottom", "near", "far", "place"] ["way", "some", "others", "bottom"] (defScope s_line_by) := ⟨rfl, rfl, rfl, by decide +kernel, rfl, by decide +kernel, by decide +kernel⟩
abbrev s_common_by : Stmt := topS 59
theorem sc_common_by : FnScope ["parts", "steps", "many", "more", "ones", "others", "whole", "corner", "much", "i", "j", "k", "part"] ["parts", "steps", "many", "more"] (defScope s_common_by) := ⟨rfl, rfl, rfl, by decide +kernel, rfl, by decide +kernel, by decide +kernel⟩
abbrev s_parting : Stmt := topS 60
theorem sc_parting : FnScope ["one", "other", "bottom", "places", "some", "others", "steps", "corners", "way"] ["one", "other"] (defScope s_parting) := ⟨rfl, rfl, rfl, by decide +kernel, rfl, by decide +kernel, by decide +kernel⟩
abbrev s_halved : Stmt := topS 64
theorem sc_halved : FnScope ["curves", "found", "curve"] ["curves"] (defScope s_halved) := ⟨rfl, rfl, rfl, by decide +kernel, rfl, by decide +kernel, by decide +kernel⟩
abbrev s_stretches : Stmt := topS 65
theorem sc_stretches : FnScope ["curve", "level", "found", "turn"] ["curve", "level"] (defScope s_stretches) := ⟨rfl, rfl, rfl, by decide +kernel, rfl, by decide +kernel, by decide +kernel⟩
abbrev s_beneath : Stmt := topS 66
theorem sc_beneath : FnScope ["pairs", "found", "i", "j", "k"] ["pairs"] (defScope s_beneath) := ⟨rfl, rfl, rfl, by decide +kernel, rfl, by decide +kernel, by decide +kernel⟩
abbrev s_meets : Stmt := topS 68
theorem sc_meets : FnScope ["one", "other", "level", "sieve"] ["one", "other", "level"] (defScope s_meets) := ⟨rfl, rfl, rfl, by decide +kernel, rfl, by decide +kernel, by decide +kernel⟩
abbrev s_powers : Stmt := topS 70
theorem sc_powers : FnScope ["curve", "n", "found", "k", "many", "parts", "at", "more"] ["curve"] (defScope s_powers) := ⟨rfl, rfl, rfl, by decide +kernel, rfl, by decide +kernel, by decide +kernel⟩
abbrev s_of_powers : Stmt := topS 71
theorem sc_of_powers : FnScope ["some", "n", "all_ways", "found", "k", "parts", "at", "many"] ["some"] (defScope s_of_powers) := ⟨rfl, rfl, rfl, by decide +kernel, rfl, by decide +kernel, by decide +kernel⟩
abbrev s_raised : Stmt := topS 75
theorem sc_raised : FnScope ["curve", "many", "found", "k"] ["curve"] (defScope s_raised) := ⟨rfl, rfl, rfl, by decide +kernel, rfl, by decide +kernel, by decide +kernel⟩
abbrev s_lowered : Stmt := topS 76
theorem sc_lowered : FnScope ["curve", "some"] ["curve"] (defScope s_lowered) := ⟨rfl, rfl, rfl, by decide +kernel, rfl, by decide +kernel, by decide +kernel⟩
abbrev s_least : Stmt := topS 77
theorem sc_least : FnScope ["curve", "some", "many"] ["curve"] (defScope s_least) := ⟨rfl, rfl, rfl, by decide +kernel, rfl, by decide +kernel, by decide +kernel⟩
abbrev s_same : Stmt := topS 78
theorem sc_same : FnScope ["one", "other"] ["one", "other"] (defScope s_same) := ⟨rfl, rfl, rfl, by decide +kernel, rfl, by decide +kernel, by decide +kernel⟩
abbrev s_show_share : Stmt := topS 83
theorem sc_show_share : FnScope ["one"] ["one"] (defScope s_show_share) := ⟨rfl, rfl, rfl, by decide +kernel, rfl, by decide +kernel, by decide +kernel⟩
abbrev s_show_point : Stmt := topS 84
theorem sc_show_point : FnScope ["one"] ["one"] (defScope s_show_point) := ⟨rfl, rfl, rfl, by decide +kernel, rfl, by decide +kernel, by decide +kernel⟩
abbrev s_show_curve : Stmt := topS 85
theorem sc_show_curve : FnScope ["curve", "seat"] ["curve"] (defScope s_show_curve) := ⟨rfl, rfl, rfl, by decide +kernel, rfl, by decide +kernel, by decide +kernel⟩
abbrev s_read_whole : Stmt := topS 86
theorem sc_read_whole : FnScope ["text", "figures", "sign"] ["text"] (defScope s_read_whole) := ⟨rfl, rfl, rfl, by decide +kernel, rfl, by decide +kernel, by decide +kernel⟩
abbrev s_read_share : Stmt := topS 87
theorem sc_read_share : FnScope ["text", "top", "bar", "bottom", "found"] ["text"] (defScope s_read_share) := ⟨rfl, rfl, rfl, by decide +kernel, rfl, by decide +kernel, by decide +kernel⟩
abbrev s_read_point : Stmt := topS 88
theorem sc_read_point : FnScope ["text", "across", "comma", "up"] ["text"] (defScope s_read_point) := ⟨rfl, rfl, rfl, by decide +kernel, rfl, by decide +kernel, by decide +kernel⟩
abbrev s_read_curve : Stmt := topS 89
theorem sc_read_curve : FnScope ["text", "parts", "part"] ["text"] (defScope s_read_curve) := ⟨rfl, rfl, rfl, by decide +kernel, rfl, by decide +kernel, by decide +kernel⟩
abbrev s_read_name : Stmt := topS 95
theorem sc_read_name : FnScope ["word", "sign"] ["word"] (defScope s_read_name) := ⟨rfl, rfl, rfl, by decide +kernel, rfl, by decide +kernel, by decide +kernel⟩
abbrev s_read_level : Stmt := topS 96
theorem sc_read_level : FnScope ["word"] ["word"] (defScope s_read_level) := ⟨rfl, rfl, rfl, by decide +kernel, rfl, by decide +kernel, by decide +kernel⟩
abbrev s_read_word : Stmt := topS 97
theorem sc_read_word : FnScope ["word", "shape"] ["word", "shape"] (defScope s_read_word) := ⟨rfl, rfl, rfl, by decide +kernel, rfl, by decide +kernel, by decide +kernel⟩
abbrev s_read_row : Stmt := topS 98
theorem sc_read_row : FnScope ["row", "words", "word", "shape"] ["row"] (defScope s_read_row) := ⟨rfl, rfl, rfl, by decide +kernel, rfl, by decide +kernel, by decide +kernel⟩
abbrev s__law_cell_at : Stmt := topS 101
theorem sc__law_cell_at : FnScope ["_law_script", "_law_k"] ["_law_script", "_law_k"] (defScope s__law_cell_at) := ⟨rfl, rfl, rfl, by decide +kernel, rfl, by decide +kernel, by decide +kernel⟩
abbrev s__law_stream : Stmt := topS 102
theorem sc__law_stream : FnScope ["_law_cell", "_law_many", "_law_number", "_law_found", "_law_k"] ["_law_cell", "_law_many"] (defScope s__law_stream) := ⟨rfl, rfl, rfl, by decide +kernel, rfl, by decide +kernel, by decide +kernel⟩
abbrev s__law_share : Stmt := topS 103
theorem sc__law_share : FnScope ["_law_top", "_law_bottom", "_law_one", "_law_other", "_law_rest"] ["_law_top", "_law_bottom"] (defScope s__law_share) := ⟨rfl, rfl, rfl, by decide +kernel, rfl, by decide +kernel, by decide +kernel⟩
abbrev s__law_way : Stmt := topS 104
theorem sc__law_way : FnScope ["_law_cell", "_law_way_here", "_law_bottom", "_law_start"] ["_law_cell"] (defScope s__law_way) := ⟨rfl, rfl, rfl, by decide +kernel, rfl, by decide +kernel, by decide +kernel⟩
abbrev s__law_place : Stmt := topS 105
theorem sc__law_place : FnScope ["_law_cell", "_law_way_here", "_law_bottom", "_law_kind", "_law_start", "_law_by", "_law_row"] ["_law_cell", "_law_way_here"] (defScope s__law_place) := ⟨rfl, rfl, rfl, by decide +kernel, rfl, by decide +kernel, by decide +kernel⟩
abbrev s__law_handed : Stmt := topS 106
theorem sc__law_handed : FnScope ["_law_places", "_law_bottom", "_law_x", "_law_y"] ["_law_places", "_law_bottom"] (defScope s__law_handed) := ⟨rfl, rfl, rfl, by decide +kernel, rfl, by decide +kernel, by decide +kernel⟩
abbrev s__law_seats : Stmt := topS 107
theorem sc__law_seats : FnScope ["_law_cell", "_law_many", "_law_way_here", "_law_one"] ["_law_cell", "_law_many", "_law_way_here"] (defScope s__law_seats) := ⟨rfl, rfl, rfl, by decide +kernel, rfl, by decide +kernel, by decide +kernel⟩
abbrev s__law_rows : Stmt := topS 108
theorem sc__law_rows : FnScope ["_law_seats_here", "_law_t", "_law_found", "_law_row", "_law_longer", "_law_k", "_law_x"] ["_law_seats_here", "_law_t"] (defScope s__law_rows) := ⟨rfl, rfl, rfl, by decide +kernel, rfl, by decide +kernel, by decide +kernel⟩
abbrev s__law_power : Stmt := topS 109
theorem sc__law_power : FnScope ["_law_number", "_law_many", "_law_found", "_law_k"] ["_law_number", "_law_many"] (defScope s__law_power) := ⟨rfl, rfl, rfl, by decide +kernel, rfl, by decide +kernel, by decide +kernel⟩
abbrev s__law_names : Stmt := topS 110
theorem sc__law_names : FnScope ["_law_cell", "_law_many", "_law_letters", "_law_row", "_law_size", "_law_at", "_law_word", "_law_found", "_law_k", "_law_name", "_law_j", "_law_place_here"] ["_law_cell", "_law_many"] (defScope s__law_names) := ⟨rfl, rfl, rfl, by decide +kernel, rfl, by decide +kernel, by decide +kernel⟩
abbrev s__law_share_text : Stmt := topS 111
theorem sc__law_share_text : FnScope ["_law_one"] ["_law_one"] (defScope s__law_share_text) := ⟨rfl, rfl, rfl, by decide +kernel, rfl, by decide +kernel, by decide +kernel⟩
abbrev s__law_point_text : Stmt := topS 112
theorem sc__law_point_text : FnScope ["_law_place_here"] ["_law_place_here"] (defScope s__law_point_text) := ⟨rfl, rfl, rfl, by decide +kernel, rfl, by decide +kernel, by decide +kernel⟩
abbrev s__law_curve_text : Stmt := topS 113
theorem sc__law_curve_text : FnScope ["_law_curve", "_law_place_here"] ["_law_curve"] (defScope s__law_curve_text) := ⟨rfl, rfl, rfl, by decide +kernel, rfl, by decide +kernel, by decide +kernel⟩
abbrev s__law_point_due : Stmt := topS 114
theorem sc__law_point_due : FnScope ["_law_seats_here", "_law_bottom", "_law_t", "_law_x", "_law_y"] ["_law_seats_here", "_law_bottom", "_law_t"] (defScope s__law_point_due) := ⟨rfl, rfl, rfl, by decide +kernel, rfl, by decide +kernel, by decide +kernel⟩
abbrev s__law_box_due : Stmt := topS 115
theorem sc__law_box_due : FnScope ["_law_seats_here", "_law_bottom", "_law_widths", "_law_heights", "_law_some", "_law_x", "_law_y", "_law_one"] ["_law_seats_here", "_law_bottom"] (defScope s__law_box_due) := ⟨rfl, rfl, rfl, by decide +kernel, rfl, by decide +kernel, by decide +kernel⟩
abbrev s__law_told : Stmt := topS 116
theorem sc__law_told : FnScope ["_law_desk", "_law_book", "_law_name", "_law_cell", "_law_row", "_law_way_here", "_law_seats_here"] ["_law_desk", "_law_book", "_law_name", "_law_cell"] (defScope s__law_told) := ⟨rfl, rfl, rfl, by decide +kernel, rfl, by decide +kernel, by decide +kernel⟩
abbrev s__law_asked : Stmt := topS 117
theorem sc__law_asked : FnScope ["_law_desk", "_law_book", "_law_cell", "_law_names_here", "_law_row", "_law_there", "_law_name", "_law_bottom", "_law_seats_here", "_law_way_here", "_law_t"] ["_law_desk", "_law_book", "_law_cell", "_law_names_here"] (defScope s__law_asked) := ⟨rfl, rfl, rfl, by decide +kernel, rfl, by decide +kernel, by decide +kernel⟩
abbrev s__law_by_turns : Stmt := topS 118
theorem sc__law_by_turns : FnScope ["_law_desk", "_law_beside", "_law_book", "_law_cell", "_law_others", "_law_k", "_law_name", "_law_one", "_law_some", "_law_bottom", "_law_seats_here"] ["_law_desk", "_law_beside", "_law_book", "_law_cell"] (defScope s__law_by_turns) := ⟨rfl, rfl, rfl, by decide +kernel, rfl, by decide +kernel, by decide +kernel⟩
abbrev s_law : Stmt := topS 119
theorem sc_law : FnScope ["_law_script", "_law_names_here", "_law_desk", "_law_beside", "_law_book", "_law_k", "_law_cell", "_law_name"] ["_law_script"] (defScope s_law) := ⟨rfl, rfl, rfl, by decide +kernel, rfl, by decide +kernel, by decide +kernel⟩
abbrev s_Sieve___init__ : Stmt := inClass (topS 67) 0
theorem sc_Sieve___init__ : FnScope ["self", "one", "other"] ["self", "one", "other"] (defScope s_Sieve___init__) := ⟨rfl, rfl, rfl, by decide +kernel, rfl, by decide +kernel, by decide +kernel⟩
abbrev s_Sieve_look : Stmt := inClass (topS 67) 1
theorem sc_Sieve_look : FnScope ["self", "pairs", "i", "j", "told"] ["self", "pairs"] (defScope s_Sieve_look) := ⟨rfl, rfl, rfl, by decide +kernel, rfl, by decide +kernel, by decide +kernel⟩
abbrev s_Sieve_go_down : Stmt := inClass (topS 67) 2
theorem sc_Sieve_go_down : FnScope ["self"] ["self"] (defScope s_Sieve_go_down) := ⟨rfl, rfl, rfl, by decide +kernel, rfl, by decide +kernel, by decide +kernel⟩
abbrev s_Desk___init__ : Stmt := inClass (topS 99) 0
theorem sc_Desk___init__ : FnScope ["self"] ["self"] (defScope s_Desk___init__) := ⟨rfl, rfl, rfl, by decide +kernel, rfl, by decide +kernel, by decide +kernel⟩
abbrev s_Desk_say : Stmt := inClass (topS 99) 1
theorem sc_Desk_say : FnScope ["self", "row", "word", "parts", "k", "curve"] ["self", "row"] (defScope s_Desk_say) := ⟨rfl, rfl, rfl, by decide +kernel, rfl, by decide +kernel, by decide +kernel⟩
abbrev s_Desk_put : Stmt := inClass (topS 99) 2
theorem sc_Desk_put : FnScope ["self", "name", "curve"] ["self", "name", "curve"] (defScope s_Desk_put) := ⟨rfl, rfl, rfl, by decide +kernel, rfl, by decide +kernel, by decide +kernel⟩
abbrev s_Desk_compared : Stmt := inClass (topS 99) 3
theorem sc_Desk_compared : FnScope ["self", "word", "one", "other", "last", "pairs", "i", "j"] ["self", "word", "one", "other", "last"] (defScope s_Desk_compared) := ⟨rfl, rfl, rfl, by decide +kernel, rfl, by decide +kernel, by decide +kernel⟩
abbrev s_Desk_asked : Stmt := inClass (topS 99) 4
theorem sc_Desk_asked : FnScope ["self", "word", "curve", "parts", "corner", "one"] ["self", "word", "curve", "parts"] (defScope s_Desk_asked) := ⟨rfl, rfl, rfl, by decide +kernel, rfl, by decide +kernel, by decide +kernel⟩
abbrev s_Desk_changed : Stmt := inClass (topS 99) 5
theorem sc_Desk_changed : FnScope ["self", "word", "curve", "parts", "first", "second"] ["self", "word", "curve", "parts"] (defScope s_Desk_changed) := ⟨rfl, rfl, rfl, by decide +kernel, rfl, by decide +kernel, by decide +kernel⟩
def kvs_SHAPES : List (Str × Str) := [("tell", "n"), ("names", ""), ("point", "ns"), ("cut", "nsww"), ("stretch", "nssw"), ("turn", "n"), ("raise", "n"), ("lower", "n"), ("least", "n"), ("speed", "nw"), ("move", "nssssss"), ("same", "nn"), ("hull", "n"), ("box", "n"), ("part", "nn"), ("meet", "nnl"), ("join", "nn")]
/-- what the top leaves -/
structure Txt (K : Frag) (mg : Str → Option Value) where
  d_common_part : DefF K mg "common_part" s_common_part ["one", "other"]
  d_share : DefF K mg "share" s_share ["top", "bottom"]
  d_plus : DefF K mg "plus" s_plus ["one", "other"]
  d_minus : DefF K mg "minus" s_minus ["one", "other"]
  d_times : DefF K mg "times" s_times ["one", "other"]
  d_under : DefF K mg "under" s_under ["one", "other"]
  d_between : DefF K mg "between" s_between ["one", "other", "t"]
  d_on_way : DefF K mg "on_way" s_on_way ["one", "other", "t"]
  d_step : DefF K mg "step" s_step ["one", "other"]
  d_moved : DefF K mg "moved" s_moved ["place", "by", "many"]
  d_next_row : DefF K mg "next_row" s_next_row ["row", "t"]
  d_rows : DefF K mg "rows" s_rows ["curve", "t"]
  d_point : DefF K mg "point" s_point ["curve", "t"]
  d_ways : DefF K mg "ways" s_ways ["n"]
  d_sum_of : DefF K mg "sum_of" s_sum_of ["points", "shares"]
  d_polar : DefF K mg "polar" s_polar ["curve", "shares"]
  d_cut : DefF K mg "cut" s_cut ["curve", "t"]
  d_stretch : DefF K mg "stretch" s_stretch ["curve", "s", "t"]
  d_turned : DefF K mg "turned" s_turned ["curve"]
  d_whole_points : DefF K mg "whole_points" s_whole_points ["points"]
  d_goes_left : DefF K mg "goes_left" s_goes_left ["one", "other", "third"]
  d_chain : DefF K mg "chain" s_chain ["some"]
  d_hull_of_whole : DefF K mg "hull_of_whole" s_hull_of_whole ["some"]
  d_hull : DefF K mg "hull" s_hull ["points"]
  d_least_of : DefF K mg "least_of" s_least_of ["some"]
  d_greatest_of : DefF K mg "greatest_of" s_greatest_of ["some"]
  d_box : DefF K mg "box" s_box ["points"]
  d_speed : DefF K mg "speed" s_speed ["curve"]
  d_smoothness : DefF K mg "smoothness" s_smoothness ["one", "other", "most"]
  d_blend : DefF K mg "blend" s_blend ["one", "other", "here", "there"]
  d_map_point : DefF K mg "map_point" s_map_point ["by", "place"]
  d_mapped : DefF K mg "mapped" s_mapped ["curve", "by"]
  d_turn_of : DefF K mg "turn_of" s_turn_of ["one", "other"]
  d_along : DefF K mg "along" s_along ["one", "other"]
  d_steps_between : DefF K mg "steps_between" s_steps_between ["some", "others"]
  d_ahead_of : DefF K mg "ahead_of" s_ahead_of ["one"]
  d_ahead_of_two : DefF K mg "ahead_of_two" s_ahead_of_two ["one", "other"]
  d_ahead_of_all : DefF K mg "ahead_of_all" s_ahead_of_all ["corners"]
  d_parts_of_two : DefF K mg "parts_of_two" s_parts_of_two ["one", "other"]
  d_parts_of : DefF K mg "parts_of" s_parts_of ["corners"]
  d_line_by : DefF K mg "line_by" s_line_by ["way", "some", "others", "bottom"]
  d_common_by : DefF K mg "common_by" s_common_by ["parts", "steps", "many", "more"]
  d_parting : DefF K mg "parting" s_parting ["one", "other"]
  d_halved : DefF K mg "halved" s_halved ["curves"]
  d_stretches : DefF K mg "stretches" s_stretches ["curve", "level"]
  d_beneath : DefF K mg "beneath" s_beneath ["pairs"]
  d_meets : DefF K mg "meets" s_meets ["one", "other", "level"]
  d_powers : DefF K mg "powers" s_powers ["curve"]
  d_of_powers : DefF K mg "of_powers" s_of_powers ["some"]
  d_raised : DefF K mg "raised" s_raised ["curve"]
  d_lowered : DefF K mg "lowered" s_lowered ["curve"]
  d_least : DefF K mg "least" s_least ["curve"]
  d_same : DefF K mg "same" s_same ["one", "other"]
  d_show_share : DefF K mg "show_share" s_show_share ["one"]
  d_show_point : DefF K mg "show_point" s_show_point ["one"]
  d_show_curve : DefF K mg "show_curve" s_show_curve ["curve"]
  d_read_whole : DefF K mg "read_whole" s_read_whole ["text"]
  d_read_share : DefF K mg "read_share" s_read_share ["text"]
  d_read_point : DefF K mg "read_point" s_read_point ["text"]
  d_read_curve : DefF K mg "read_curve" s_read_curve ["text"]
  d_read_name : DefF K mg "read_name" s_read_name ["word"]
  d_read_level : DefF K mg "read_level" s_read_level ["word"]
  d_read_word : DefF K mg "read_word" s_read_word ["word", "shape"]
  d_read_row : DefF K mg "read_row" s_read_row ["row"]
  d__law_cell_at : DefF K mg "_law_cell_at" s__law_cell_at ["_law_script", "_law_k"]
  d__law_stream : DefF K mg "_law_stream" s__law_stream ["_law_cell", "_law_many"]
  d__law_share : DefF K mg "_law_share" s__law_share ["_law_top", "_law_bottom"]
  d__law_way : DefF K mg "_law_way" s__law_way ["_law_cell"]
  d__law_place : DefF K mg "_law_place" s__law_place ["_law_cell", "_law_way_here"]
  d__law_handed : DefF K mg "_law_handed" s__law_handed ["_law_places", "_law_bottom"]
  d__law_seats : DefF K mg "_law_seats" s__law_seats ["_law_cell", "_law_many", "_law_way_here"]
  d__law_rows : DefF K mg "_law_rows" s__law_rows ["_law_seats_here", "_law_t"]
  d__law_power : DefF K mg "_law_power" s__law_power ["_law_number", "_law_many"]
  d__law_names : DefF K mg "_law_names" s__law_names ["_law_cell", "_law_many"]
  d__law_share_text : DefF K mg "_law_share_text" s__law_share_text ["_law_one"]
  d__law_point_text : DefF K mg "_law_point_text" s__law_point_text ["_law_place_here"]
  d__law_curve_text : DefF K mg "_law_curve_text" s__law_curve_text ["_law_curve"]
  d__law_point_due : DefF K mg "_law_point_due" s__law_point_due ["_law_seats_here", "_law_bottom", "_law_t"]
  d__law_box_due : DefF K mg "_law_box_due" s__law_box_due ["_law_seats_here", "_law_bottom"]
  d__law_told : DefF K mg "_law_told" s__law_told ["_law_desk", "_law_book", "_law_name", "_law_cell"]
  d__law_asked : DefF K mg "_law_asked" s__law_asked ["_law_desk", "_law_book", "_law_cell", "_law_names_here"]
  d__law_by_turns : DefF K mg "_law_by_turns" s__law_by_turns ["_law_desk", "_law_beside", "_law_book", "_law_cell"]
  d_law : LawF K mg s_law "_law_script"
  C_Sieve : Addr
  l_Sieve : ClF K mg "Sieve" C_Sieve
  n_Sieve_level : NoAttr K C_Sieve "level"
  n_Sieve_ones : NoAttr K C_Sieve "ones"
  n_Sieve_others : NoAttr K C_Sieve "others"
  n_Sieve_pairs : NoAttr K C_Sieve "pairs"
  n_Sieve_thrown : NoAttr K C_Sieve "thrown"
  d_Sieve___init__ : InF K C_Sieve "Sieve.__init__" s_Sieve___init__ ["self", "one", "other"]
  d_Sieve_look : MtF K C_Sieve "look" "Sieve.look" s_Sieve_look ["self", "pairs"]
  d_Sieve_go_down : MtF K C_Sieve "go_down" "Sieve.go_down" s_Sieve_go_down ["self"]
  C_Desk : Addr
  l_Desk : ClF K mg "Desk" C_Desk
  n_Desk_book : NoAttr K C_Desk "book"
  d_Desk___init__ : InF K C_Desk "Desk.__init__" s_Desk___init__ ["self"]
  d_Desk_say : MtF K C_Desk "say" "Desk.say" s_Desk_say ["self", "row"]
  d_Desk_put : MtF K C_Desk "put" "Desk.put" s_Desk_put ["self", "name", "curve"]
  d_Desk_compared : MtF K C_Desk "compared" "Desk.compared" s_Desk_compared ["self", "word", "one", "other", "last"]
  d_Desk_asked : MtF K C_Desk "asked" "Desk.asked" s_Desk_asked ["self", "word", "curve", "parts"]
  d_Desk_changed : MtF K C_Desk "changed" "Desk.changed" s_Desk_changed ["self", "word", "curve", "parts"]
  C_SeatError : Addr
  e_SeatError : ExcF K mg "SeatError" C_SeatError
  C_NoShare : Addr
  e_NoShare : ExcF K mg "NoShare" C_NoShare
  C_NoLower : Addr
  e_NoLower : ExcF K mg "NoLower" C_NoLower
  C_TooMany : Addr
  e_TooMany : ExcF K mg "TooMany" C_TooMany
  C_NoText : Addr
  e_NoText : ExcF K mg "NoText" C_NoText
  C_NoName : Addr
  e_NoName : ExcF K mg "NoName" C_NoName
  m_abs : mg "abs" = none
  m_divmod : mg "divmod" = none
  m_enumerate : mg "enumerate" = none
  m_int : mg "int" = none
  m_isinstance : mg "isinstance" = none
  m_len : mg "len" = none
  m_list : mg "list" = none
  m_max : mg "max" = none
  m_min : mg "min" = none
  m_range : mg "range" = none
  m_reversed : mg "reversed" = none
  m_set : mg "set" = none
  m_sorted : mg "sorted" = none
  m_str : mg "str" = none
  m_sum : mg "sum" = none
  m_tuple : mg "tuple" = none
  m_zip : mg "zip" = none
  c_NOUGHT_curves : Addr
  g_NOUGHT_curves : mg "NOUGHT_curves" = some (.ref c_NOUGHT_curves)
  r_NOUGHT_curves : ∀ H, Rp K H (.ref c_NOUGHT_curves) (.tup [.int 0, .int 1])
  c_NOUGHT_partings : Addr
  g_NOUGHT_partings : mg "NOUGHT_partings" = some (.ref c_NOUGHT_partings)
  r_NOUGHT_partings : ∀ H, Rp K H (.ref c_NOUGHT_partings) (.tup [.int 0, .int 1])
  c_HALF : Addr
  g_HALF : mg "HALF" = some (.ref c_HALF)
  r_HALF : ∀ H, Rp K H (.ref c_HALF) (.tup [.int 1, .int 2])
  g_MOST_PAIRS : ∃ t, mg "MOST_PAIRS" = some (.int 256 t)
  g_MOST_SEATS : ∃ t, mg "MOST_SEATS" = some (.int 12 t)
  c_NOUGHT_raising : Addr
  g_NOUGHT_raising : mg "NOUGHT_raising" = some (.ref c_NOUGHT_raising)
  r_NOUGHT_raising : ∀ H, Rp K H (.ref c_NOUGHT_raising) (.tup [.tup [.int 0, .int 1], .tup [.int 0, .int 1]])
  g_FIGURES : ∃ t, mg "FIGURES" = some (.str "0123456789" t)
  g_MOST_FIGURES : ∃ t, mg "MOST_FIGURES" = some (.int 100 t)
  g_MOST_PARTS : ∃ t, mg "MOST_PARTS" = some (.int 12 t)
  g_LETTERS : ∃ t, mg "LETTERS" = some (.str "abcdefghijklmnopqrstuvwxyz" t)
  g_MOST_LETTERS : ∃ t, mg "MOST_LETTERS" = some (.int 12 t)
  g_MOST_SMOOTH : ∃ t, mg "MOST_SMOOTH" = some (.int 11 t)
  c_SHAPES : Addr
  g_SHAPES : mg "SHAPES" = some (.ref c_SHAPES)
/-- dicts of the top (their hashes know the world) -/
structure TxW {K : Frag} {mg : Str → Option Value} (w : World) (T : Txt K mg) : Prop where
  kd_SHAPES : KdS K w T.c_SHAPES kvs_SHAPES
end Lw
namespace Lw
open PySem PySem.Spec PyProof.Rows L2 C7
local macro_rules | `(tactic| walk_at "bt") => `(tactic| first
  | with_reducible assumption
  | exact Sz.num (by with_reducible assumption)
  | exact Sz.den (by with_reducible assumption)
  | (refine' bt_mul ?b1 ?b2; (case b1 => walk_at "bt"); (case b2 => walk_at "bt"))
  | (refine' bt_add ?b1 ?b2; (case b1 => walk_at "bt"); (case b2 => walk_at "bt"))
  | (refine' bt_sub ?b1 ?b2; (case b1 => walk_at "bt"); (case b2 => walk_at "bt"))
  | (refine' bt_neg ?b1; (case b1 => walk_at "bt"))
  | exact (by decide : (_ : Nat) < 2 ^ 64)
  | exact bt_small 64 (by omega) (by omega))
local macro_rules | `(tactic| walk_at "sz") => `(tactic| first
  | decide
  | omega
  | (refine' cpow ?b1 ?b2 ?b3; (case b1 => decide); (case b2 => decide); (case b3 => decide))
  | (refine' divw ?b0 ?b1 ?b2 ?b3; (case b0 => first | decide | omega); (case b1 => walk_at "bt"); (case b2 => decide); (case b3 => decide))
  | (refine' mulx ?b1 ?b2 ?b3; (case b1 => walk_at "bt"); (case b2 => walk_at "bt"); (case b3 => first | decide | omega)))
local macro_rules | `(tactic| walk_at "szr") => `(tactic| first
  | with_reducible assumption
  | with_reducible exact sz_zero
  | with_reducible exact SzP.l (by with_reducible assumption)
  | with_reducible exact SzP.r (by with_reducible assumption)
  | with_reducible exact sel_sz (by with_reducible assumption)
  | with_reducible exact sz_one
  | (with_reducible refine' sz_one_sub ?b1; (case b1 => walk_at "szr"))
  | (with_reducible refine' sz_mul ?b1 ?b2; (case b1 => walk_at "szr"); (case b2 => walk_at "szr"))
  | (with_reducible refine' sz_add ?b1 ?b2; (case b1 => walk_at "szr"); (case b2 => walk_at "szr"))
  | (with_reducible refine' sz_sub ?b1 ?b2; (case b1 => walk_at "szr"); (case b2 => walk_at "szr")))
local macro_rules | `(tactic| walk_at "il") => `(tactic| first
  | with_reducible assumption
  | with_reducible exact IsL.cl
  | with_reducible exact IsL.of aupd_same
  | (with_reducible refine' IsL.ext ?b1 (Ext.new ?b2); (case b2 => with_reducible assumption); (case b1 => walk_at "il"))
  | (with_reducible refine' IsL.ext ?b1 ?b2; (case b2 => with_reducible assumption); (case b1 => walk_at "il")))
local macro_rules | `(tactic| walk_at "ilx") => `(tactic| (refine' IsL.ext ?b1 ?b2; (case b2 => with_reducible assumption); (case b1 => walk_at "il")))
local macro_rules | `(tactic| walk_at "len") => `(tactic| first | decide | exact Nat.le_of_ble_eq_true rfl | omega)
local macro_rules | `(tactic| walk_at "ib") => `(tactic| first | rfl | (exact atN _ (by omega)) | (exact atZ (by omega) (by omega)))
local macro_rules | `(tactic| walk_at "fz") => `(tactic| first
  | with_reducible assumption
  | (with_reducible refine' fz_S ?b1; (case b1 => walk_at "szr"))
  | (with_reducible refine' fz_mul ?b1 ?b2; (case b1 => walk_at "fz"); (case b2 => walk_at "fz"))
  | (with_reducible refine' fz_add ?b1 ?b2 ?b3; (case b1 => walk_at "fz"); (case b2 => walk_at "fz"); (case b3 => decide)))
local macro_rules | `(tactic| walk_at "p30") => `(tactic| first | exact (by decide : (0 : Int) < 10 ^ (30 : Int).toNat) | exact divw (by decide : (0 : Int) < 10 ^ (30 : Int).toNat) (by decide : ((10 : Int) ^ (30 : Int).toNat).natAbs < 2 ^ 100) (by decide) (by decide))
local macro_rules | `(tactic| walk_at "om") => `(tactic| first | omega | decide | (simp only [List.length_map, List.length_range, List.length_append, List.length_cons, List.length_nil, List.length_reverse, List.length_replicate] at *; omega) | (simp; omega))
local macro_rules | `(tactic| walk_at "om4") => `(tactic| (refine ⟨?_, ?_, ?_, ?_⟩ <;> walk_at "om"))
local macro_rules | `(tactic| walk_at "lt") => `(tactic| first | (rw [List.length_map]; exact small1000 (by omega)) | exact small1000 (by walk_at "om"))
local macro_rules | `(tactic| walk_at "len") => `(tactic| first | decide | exact Nat.le_of_ble_eq_true rfl | omega | exact Nat.le_of_lt (small1000 (by walk_at "om")))
local macro_rules | `(tactic| walk_at "im") => `(tactic| first | with_reducible assumption | exact IsM.fz _ | exact IsM.ref aupd_same)
local macro_rules | `(tactic| walk_at "fact") => `(tactic| first | rfl | (simp; done) | (simp; omega))
section
variable {P : Program} {w : World} {K : Frag} {mg : Str → Option Value} {base : Heap}
theorem small_sz {n : Nat} (h : n < 2000000) : n < sizeLine := by rw [sizeLine_eq]; omega
theorem num_denT (r : Rat) : r = (r.num : Rat) / (((r.den : Int)) : Rat) := by
  have := rat_eq r
  rw [this]
  push_cast
  first | rfl | (rw [← this]; exact this)
theorem rdS_nil (q : Rat) : ¬ rdS [] q := fun h => by
  rcases h with ⟨_, h, _⟩ | ⟨a, b, e, _⟩
  · exact h.1 rfl
  · cases a <;> cases e
theorem rdP_one {l : List Nat} {p q : Pt} (h : rdP l p) (h' : rdP l q) : p = q := by
  obtain ⟨a, b, rfl, h1, h2, h3⟩ := h
  obtain ⟨a', b', e, g1, g2, g3⟩ := h'
  obtain ⟨rfl, rfl⟩ := first_uniq e h1 g1
  exact Prod.ext (rdS_one h2 g2) (rdS_one h3 g3)
/-- what a text of a curve is read to -/
def rdC (x : Str) (row : List Pt) : Prop := (Txt.split x " ").length ≤ 12 ∧ row.length = (Txt.split x " ").length ∧ ∀ i, i < row.length → rdP (TL.tl ((Txt.split x " ").getD i default)) (gp row i)
theorem spl_len (S : List Nat) : ∀ (l acc : List Nat) (k : Nat), ∀ p ∈ TL.spl S k acc l, p.length ≤ acc.length + l.length
  | [], acc, k, p, hp => by
    rw [TL.spl_nil] at hp
    rw [List.mem_singleton.mp hp]; simp
  | c :: r, acc, k + 1, p, hp => by
    have := spl_len S r acc k p hp
    rw [List.length_cons]; omega
  | c :: r, acc, 0, p, hp => by
    cases h : TL.pre S (c :: r) with
    | true =>
      rw [TL.spl_hit h] at hp
      rcases List.mem_cons.mp hp with rfl | hp
      · omega
      · have := spl_len S r [] (S.length - 1) p hp
        rw [List.length_cons]; simp at this; omega
    | false =>
      rw [TL.spl_miss h] at hp
      have := spl_len S r (acc ++ [c]) 0 p hp
      rw [List.length_append] at this
      rw [List.length_cons]; simp at this; omega
theorem split_part_len (x : Str) {p : Str} (h : p ∈ Txt.split x " ") : p.length ≤ x.length := by
  have h1 : TL.tl p ∈ (Txt.split x " ").map TL.tl := List.mem_map.mpr ⟨p, h, rfl⟩
  rw [TL.split_spl _ _ (by decide) (TL.kind_ok (all256 (l := [32]) rfl rfl))] at h1
  have := spl_len _ _ _ _ _ h1
  rw [TL.len_tl, TL.len_tl x]
  simpa using this
theorem rdC_cv {row : List Pt} (h0 : 0 < row.length) (h1 : row.length ≤ 12) (h : ∀ p ∈ row, FgP p) : rdC (cvT row) row := by
  unfold rdC
  rw [split_cv (by intro e; rw [e] at h0; cases h0), List.length_map]
  refine ⟨h1, rfl, fun i hi => ?_⟩
  have e : (row.map ptT).getD i default = ptT (gp row i) := by
    unfold gp
    rw [List.getD_eq_getElem?_getD, List.getElem?_map, List.getElem?_eq_getElem hi, List.getD_eq_getElem?_getD, List.getElem?_eq_getElem hi]; rfl
  rw [e, tl_ptT]
  exact rd_ptl (h _ (gp_mem hi))
theorem fg_sz {q : Rat} {m : Nat} (h : Sz m q) (hm : m ≤ 332) : Fg q := by
  have hp : (2 : Nat) ^ 332 < 10 ^ 100 := by decide
  have h1 := h.num
  have h2 := h.den
  have h3 : (2 : Nat) ^ m ≤ 2 ^ 332 := Nat.pow_le_pow_right (by decide) hm
  have h4 : ((q.den : Int)).natAbs = q.den := Int.natAbs_natCast _
  exact ⟨by omega, by omega⟩
def ct_read_whole (C : Addr) : Ct := fun ds A k e => ∃ (x : Str), ds = [.str x] ∧ x.length ≤ 1000000 ∧ (okW (TL.tl x) → k (.int (valW (TL.tl x))) A) ∧ (¬ okW (TL.tl x) → e (.ref C) A)
theorem ok_read_whole (T : Txt K mg) : Fn P w K mg base "read_whole" 1 (ct_read_whole T.C_NoText) := by
  refine fn_mk T.d_read_whole sc_read_whole (fun ds A k e h => ?_) fun f cdv A0 outer s H E hr hp htk ds A kk ee h => ?_
  · obtain ⟨x, rfl, _⟩ := h; rfl
  obtain ⟨x, rfl, hl, hk, he⟩ := h
  refine as_set (i := 1) sc_read_whole.nd rfl (.inl rfl) (AV.ae (av_var (i := 0) rfl (.inl rfl) rfl) ?_)
  have hz : x.length ≤ sizeLine := Nat.le_of_lt (small_sz (by omega))
  refine as_if1 (f := D.str) (fun fg : Str => TL.tl fg = figs (TL.tl x)) 1 (at_val (av_starts (av_var (i := 0) rfl (.inl rfl) rfl) av_str)) (fun hb => ?_) (fun hb => ?_) fun fg hfg => ?_
  · rw [starts_minus] at hb
    have hb := of_decide_eq_true hb
    refine as_set (i := 1) sc_read_whole.nd rfl (.inl rfl) (AV.ae (av_slS (lo' := some 1) (hi' := none) (av_var (i := 0) rfl (.inl rfl) rfl) hz av_int trivial) ?_)
    exact as_nil ⟨_, by rw [tl_cut1, figs, if_pos hb], rfl, rfl⟩
  · rw [starts_minus] at hb
    have hb := of_decide_eq_false hb
    exact as_nil ⟨_, by rw [figs, if_neg hb], rfl, rfl⟩
  refine AS.ro (ρ' := [some (.str x), some (.str fg), none]) ?_
  have hfl : fg.length = (figs (TL.tl x)).length := by rw [TL.len_tl, hfg]
  have hfx : (figs (TL.tl x)).length ≤ x.length := by
    rw [TL.len_tl, figs]
    split
    · rw [List.length_tail]; omega
    · omega
  have hfz : fg.length ≤ sizeLine := by rw [hfl]; exact Nat.le_trans hfx hz
  have hf0 : fg = "" ↔ figs (TL.tl x) = [] := by
    rw [← hfg]
    exact ⟨fun e => by rw [e]; rfl, fun e => TL.ext_tl (by rw [e]; rfl)⟩
  refine as_if (AW.at (aw_or (at_eqS (av_var (i := 1) rfl (.inl rfl) rfl) av_str) fun _ => (aw_or1 (at_gt (av_lenS rfl T.m_len (av_var (i := 1) rfl (.inl rfl) rfl) hfz) (av_globI rfl T.g_MOST_FIGURES))))) (fun hb => ?_) (fun hb => as_end ?_)
  · have hb : figs (TL.tl x) = [] ∨ 100 < (figs (TL.tl x)).length := by
      rw [Bool.or_eq_true, decide_eq_true_eq, decide_eq_true_eq, hf0, hfl] at hb
      exact hb.imp id fun h => by omega
    exact as_cons (a1_raiseF T.e_NoText rfl htk rfl (he fun o => hb.elim o.1 fun h => Nat.lt_irrefl _ (Nat.lt_of_lt_of_le h o.2.1)))
  have hb : figs (TL.tl x) ≠ [] ∧ (figs (TL.tl x)).length ≤ 100 := by
    rw [Bool.or_eq_false_iff, decide_eq_false_iff_not, decide_eq_false_iff_not, hf0, hfl] at hb
    exact ⟨hb.1, by omega⟩
  refine as_cons (a1_for hp rfl (ai_S (av_var (i := 1) rfl (.inl rfl) rfl) ⟨fun i ρ A' => ∃ (y : Option D), ρ = [some (.str x), some (.str fg), y] ∧ A = A' ∧ (∀ j, j < i → 48 ≤ (figs (TL.tl x)).getD j 0 ∧ (figs (TL.tl x)).getD j 0 ≤ 57), ⟨_, rfl, rfl, fun j hj => absurd hj (Nat.not_lt_zero _)⟩, fun i ρ A' hle hI => trivial, fun i ρ A' hi hI => ⟨_, _, (ag_name (i := 2) sc_read_whole.nd rfl (.inl rfl)), ?_⟩, fun ρ A' hI => ?_⟩))
  · skip
    obtain ⟨y, rfl, rfl, hd⟩ := hI
    have hcg : fg.cps.getD i 0 = (figs (TL.tl x)).getD i 0 := by rw [← hfg, Array.getD_eq_getD_getElem?, List.getD_eq_getElem?_getD, Array.getElem?_toList]
    have hin : ∀ c : Nat, c ∈ (("0123456789" : Str)).cps.toList ↔ 48 ≤ c ∧ c ≤ 57 := fun c => by
      show c ∈ [48, 49, 50, 51, 52, 53, 54, 55, 56, 57] ↔ _
      simp only [List.mem_cons, List.not_mem_nil, or_false]
      omega
    refine as_if (at_notInSg (av_var (i := 2) rfl (.inl rfl) rfl) (av_globS rfl T.g_FIGURES)) (fun hc9 => ?_) (fun hc9 => as_end ?_)
    · have hc9 : ¬ (48 ≤ (figs (TL.tl x)).getD i 0 ∧ (figs (TL.tl x)).getD i 0 ≤ 57) := by
        rw [Bool.not_eq_true', decide_eq_false_iff_not, hin, hcg] at hc9
        exact hc9
      have hil : i < (figs (TL.tl x)).length := by rw [← hfl]; exact hi
      exact as_cons (a1_raiseF T.e_NoText rfl htk rfl (he fun o => hc9 (o.2.2.1 _ (by rw [List.getD_eq_getElem?_getD, List.getElem?_eq_getElem hil]; exact List.getElem_mem hil))))
    have hc9 : 48 ≤ (figs (TL.tl x)).getD i 0 ∧ (figs (TL.tl x)).getD i 0 ≤ 57 := by
      rw [Bool.not_eq_false', decide_eq_true_eq, hin, hcg] at hc9
      exact hc9
    exact as_nil ⟨_, rfl, rfl, fun j hj => (Nat.lt_succ_iff_lt_or_eq.mp hj).elim (hd j) (fun e => by subst e; exact hc9)⟩
  obtain ⟨y, rfl, rfl, hd⟩ := hI
  have hdg : NumText.AllDigits (figs (TL.tl x)) := fun c hc => by
    obtain ⟨j, hj, e⟩ := List.getElem_of_mem hc
    have := hd j (by show j < fg.length; rw [hfl]; exact hj)
    rw [List.getD_eq_getElem?_getD, List.getElem?_eq_getElem hj, Option.getD_some, e] at this
    exact this
  obtain ⟨c0, r0, hcr⟩ : ∃ c0 r0, figs (TL.tl x) = c0 :: r0 := by
    cases hc : figs (TL.tl x) with
    | nil => exact absurd hc hb.1
    | cons c0 r0 => exact ⟨c0, r0, rfl⟩
  have hc0 : fg.cps[(0 : Int).toNat]? = some c0 := by
    show fg.cps[0]? = some c0
    rw [← Array.getElem?_toList]
    show (TL.tl fg)[0]? = some c0
    rw [hfg, hcr]; rfl
  have hz0 : ∀ c : Nat, ((⟨#[c]⟩ : Str) = "0") ↔ c = 48 := fun c => by
    constructor
    · intro e
      have := congrArg TL.tl e
      have h9 : [c] = [48] := this
      injection h9
    · intro e
      subst e; rfl
  have hx0 : x = "0" ↔ TL.tl x = [48] := ⟨fun e => by rw [e]; rfl, fun e => TL.ext_tl (by rw [e]; rfl)⟩
  refine as_if (AW.at (aw_and (at_eqS (av_ixS (av_var (i := 1) rfl (.inl rfl) rfl) av_int (by decide) (by decide) hc0) av_str) fun _ => (aw_and1 (at_neS (av_var (i := 0) rfl (.inl rfl) rfl) av_str)))) (fun h8 => ?_) (fun h8 => as_end ?_)
  · rw [Bool.and_eq_true, Bool.not_eq_true', decide_eq_true_eq, decide_eq_false_iff_not, hz0, hx0] at h8
    exact as_cons (a1_raiseF T.e_NoText rfl htk rfl (he fun o => h8.2 (o.2.2.2 (by rw [hcr, h8.1]; rfl))))
  have hok : okW (TL.tl x) := ⟨hb.1, hb.2, hdg, fun h => by
    rw [hcr] at h
    have h7 : c0 = 48 := Option.some.inj h
    by_cases h6 : TL.tl x = [48]
    · exact h6
    · rw [(hz0 c0).mpr h7] at h8
      have h5 : x ≠ "0" := fun e => h6 (hx0.mp e)
      simp [h5] at h8⟩
  refine as_retv (av_intS rfl T.m_int (av_var (i := 0) rfl (.inl rfl) rfl) (int_ok hok) (by rw [TL.len_tl]; have := okW_len hok; omega)) (hk hok)
/-- curves each of which joins the next one -/
def Jnd (cs : List (List Pt)) : Prop := ∀ j, j + 1 < cs.length → gp (cs.getD j []) ((cs.getD j []).length - 1) = gp (cs.getD (j + 1) []) 0
def Lns (l : Nat) (cs : List (List Pt)) : Prop := ∀ j, j < cs.length → 0 < (cs.getD j []).length ∧ (cs.getD j []).length ≤ l
/-- a path at p -/
def IsPath (C : Addr) (A : AH) (p : Addr) (cs : List (List Pt)) : Prop := ∃ y, A p = some (.ins C y [("parts", .fz (cs.map (fzs pt)))])
/-- the number of the curve at a share -/
def numR (t : Rat) (n : Nat) : Int := min (t.num / (t.den : Int)) ((n : Int) - 1)
theorem getD_all {α : Type} (d : α) (cs : List α) : (List.range cs.length).map (fun i => cs.getD i d) = cs := by
  apply List.ext_getElem
  · simp
  · intro i h1 h2
    rw [List.getElem_map, List.getElem_range, List.getD_eq_getElem?_getD, List.getElem?_eq_getElem h2]; rfl
theorem getD_ll {α : Type} (d : α) {cs : List α} {j : Nat} (h : j < cs.length) : cs.getD j d ∈ cs := by
  rw [List.getD_eq_getElem?_getD, List.getElem?_eq_getElem h]; exact List.getElem_mem h
theorem szI4 {x : Int} {m : Nat} (h : x.natAbs < 2 ^ m) (h0 : 0 < m) : Sz m (x : Rat) := sz_int h h0
theorem num_neg {t : Rat} : t.num < 0 ↔ t < 0 := by
  constructor
  · intro h
    apply Rat.not_le.mp
    intro h2
    have := Rat.num_nonneg.mpr h2
    omega
  · intro h
    apply Int.not_le.mp
    intro h2
    exact (Rat.not_le.mpr h) (Rat.num_nonneg.mp h2)
theorem numR_bd {t : Rat} {n : Nat} (h : ¬ t < 0) (h0 : 0 < n) (h1 : n ≤ 12) : 0 ≤ numR t n ∧ numR t n < n ∧ (numR t n).natAbs < 2 ^ 4 := by
  have hn : 0 ≤ t.num := by
    apply Int.not_lt.mp
    intro h2; exact h (num_neg.mp h2)
  have hd : (0 : Int) < t.den := by have := t.den_pos; omega
  have h3 : 0 ≤ t.num / (t.den : Int) := Int.ediv_nonneg hn (by omega)
  unfold numR
  omega
structure GoodP (cs : List (List Pt)) : Prop where
  l0 : 0 < cs.length
  l1 : cs.length ≤ 12
  jn : Jnd cs
theorem map_getD2 {α β : Type} {f : α → β} {cs : List (List α)} {i : Nat} (h : i < cs.length) : (cs.map fun c => c.map f).getD i [] = (cs.getD i []).map f := by
  rw [List.getD_eq_getElem?_getD, List.getElem?_map, List.getD_eq_getElem?_getD, List.getElem?_eq_getElem h]; rfl
theorem atD {ds : List D} {x : Int} {n : Nat} (e : x = (n : Int)) (h : n < ds.length) : atI ds x = some (ds.getD n .non) := by
  have := atG (f := id) (D.non) (xs := ds) (i := x) (by omega) (by omega)
  rw [List.map_id, e, Int.toNat_natCast] at this
  rw [e]; exact this
def ct_common_part : Ct := fun ds A k _ => ∃ a b : Int, ds = [.int a, .int b] ∧ 0 ≤ a ∧ 0 ≤ b ∧ b.natAbs < 2 ^ 9000 ∧ k (.int (Nat.gcd a.natAbs b.natAbs : Nat)) A
theorem ok_common_part (T : Txt K mg) : Fn P w K mg base "common_part" 1 ct_common_part := by
  refine fn_mk T.d_common_part sc_common_part (fun ds A k e h => ?_) fun f cdv A0 outer s H E hr hp htk ds A kk ee h => ?_
  · obtain ⟨a, b, rfl, _⟩ := h; rfl
  obtain ⟨a, b, rfl, ha, hb, hz, hk⟩ := h
  refine as_cons (a1_while hp (fun ρ A' => A' = A ∧ ∃ x y y2 y3, ρ = [some (.int x), some (.int y), y2, y3] ∧ 0 ≤ x ∧ 0 ≤ y ∧ y.natAbs < 2 ^ 9000 ∧ Nat.gcd x.natAbs y.natAbs = Nat.gcd a.natAbs b.natAbs)
    (fun ρ _ => match ρ with | [_, some (.int y), _, _] => y.natAbs | _ => 0) ⟨rfl, a, b, none, none, rfl, ha, hb, hz, rfl⟩ fun ρ A' hI => ?_)
  obtain ⟨rfl, x, y, y2, y3, rfl, hx, hy, hyz, hg⟩ := hI
  refine AT.aet (at_gt (av_var (i := 1) rfl (.inl rfl) rfl) av_int) ⟨fun hb => ?_, fun hb => ?_⟩
  · have h0 : 0 < y := of_decide_eq_true hb
    refine as_cons (a1_asg (AV.ae (av_divmod rfl T.m_divmod (avs_cons (av_var (i := 0) rfl (.inl rfl) rfl) (avs_cons (av_var (i := 1) rfl (.inl rfl) rfl) avs_nil)) (divp h0 hyz)) ⟨_, (ag_tup rfl (ags_cons (ag_name (i := 2) sc_common_part.nd rfl (.inl rfl)) (ags_cons (ag_name (i := 3) sc_common_part.nd rfl (.inl rfl)) ags_nil))), ?_⟩))
    refine as_set (i := 0) sc_common_part.nd rfl (.inl rfl) (AV.ae (av_var (i := 1) rfl (.inl rfl) rfl) ?_)
    refine as_set (i := 1) sc_common_part.nd rfl (.inl rfl) (AV.ae (av_var (i := 3) rfl (.inl rfl) rfl) ?_)
    have h1 := Int.emod_nonneg x (show y ≠ 0 by omega)
    have h2 := Int.emod_lt_of_pos x h0
    refine as_nil ⟨⟨rfl, y, x % y, _, _, rfl, hy, h1, by omega, (gcd_step hx h0).trans hg⟩, ?_⟩
    show (x % y).natAbs < y.natAbs
    omega
  · have h0 : y = 0 := by
      have : ¬ 0 < y := of_decide_eq_false hb
      omega
    subst h0
    refine as_retv (av_var (i := 0) rfl (.inl rfl) rfl) ?_
    rw [← hg, gcd_zero hx] at hk
    exact hk
def ct_share (C : Addr) : Ct := fun ds A k e => ∃ t b : Int, ds = [.int t, .int b] ∧ (b = 0 → e (.ref C) A) ∧ (b ≠ 0 → b.natAbs < 2 ^ 9000 ∧ k (sh ((t : Rat) / (b : Rat))) A)
theorem ok_share (T : Txt K mg) : Fn P w K mg base "share" 2 (ct_share T.C_NoShare) := by
  refine fn_mk T.d_share sc_share (fun ds A k e h => ?_) fun f cdv A0 outer s H E hr hp htk ds A kk ee h => ?_
  · obtain ⟨a, b, rfl, _⟩ := h; rfl
  obtain ⟨t, b, rfl, h0, hk⟩ := h
  refine as_if (at_eq (av_var (i := 1) rfl (.inl rfl) rfl) av_int) (fun hb => ?_) (fun hb => ?_)
  · -- raise NoShare('nothing is shared by nought')
    exact as_cons (a1_raiseF T.e_NoShare rfl htk rfl (h0 (of_decide_eq_true hb)))
  refine as_end ?_
  obtain ⟨hz, hk⟩ := hk (of_decide_eq_false hb)
  have hb0 : b ≠ 0 := of_decide_eq_false hb
  have key : ∀ t' b' : Int, 0 < b' → b'.natAbs < 2 ^ 9000 → kk (sh ((t' : Rat) / (b' : Rat))) A → AS (cxOf (L2N.CX P w) P w K mg base ["top", "bottom", "part"] "share" (defScope s_share) f cdv A0 outer s H E) (fun cls d _ H => E cls d H) ((defBody s_share).drop 2) [some (.int t'), some (.int b'), none] A { nx := fun _ A' => kk .non A', rt := kk, xc := fun c _ A' => ee c A' } := by
    intro t' b' hb' hz' hk'
    have hg : 0 < Nat.gcd t'.natAbs b'.natAbs := Nat.gcd_pos_of_pos_right _ (by omega)
    have hle : Nat.gcd t'.natAbs b'.natAbs ≤ b'.natAbs := Nat.le_of_dvd (by omega) (Nat.gcd_dvd_right _ _)
    have habs : (if t' < 0 then -t' else t').natAbs = t'.natAbs := by split <;> omega
    refine as_set (i := 2) sc_share.nd rfl (.inl rfl) (AV.ae (av_call (d := .int (Nat.gcd t'.natAbs b'.natAbs : Nat)) (ok_common_part T) (hr.mono (by decide)) rfl (avs_cons (av_abs rfl T.m_abs (av_var (i := 0) rfl (.inl rfl) rfl)) (avs_cons (av_var (i := 1) rfl (.inl rfl) rfl) avs_nil)) ⟨_, _, rfl, by split <;> omega, by omega, hz', by rw [habs], Ext.refl _⟩) ?_)
    have hd : ∀ i : Int, CDivW i (Nat.gcd t'.natAbs b'.natAbs : Nat) := fun i => divw (b := 9000) (by omega) (by omega) (by decide) (by decide)
    refine as_retv (av_tup (avs_cons (av_div (av_var (i := 0) rfl (.inl rfl) rfl) (av_var (i := 2) rfl (.inl rfl) rfl) (hd _)) (avs_cons (av_div (av_var (i := 1) rfl (.inl rfl) rfl) (av_var (i := 2) rfl (.inl rfl) rfl) (hd _)) avs_nil))) ?_
    rw [share_eq hb']
    exact hk'
  refine as_if (at_lt (av_var (i := 1) rfl (.inl rfl) rfl) av_int) (fun hb => ?_) (fun hb => ?_)
  · have hneg : b < 0 := of_decide_eq_true hb
    refine as_set (i := 0) sc_share.nd rfl (.inl rfl) (AV.ae (av_sub av_int (av_var (i := 0) rfl (.inl rfl) rfl)) ?_)
    refine as_set (i := 1) sc_share.nd rfl (.inl rfl) (AV.ae (av_sub av_int (av_var (i := 1) rfl (.inl rfl) rfl)) ?_)
    refine as_end (key (0 - t) (0 - b) (by omega) (by omega) ?_)
    rw [neg_div_neg]
    exact hk
  · have : ¬ b < 0 := of_decide_eq_false hb
    exact as_end (key t b (by omega) hz hk)
def ct_read_share (C : Addr) : Ct := fun ds A k e => ∃ (x : Str), ds = [.str x] ∧ x.length ≤ 1000000 ∧ (∀ q, rdS (TL.tl x) q → k (sh q) A) ∧ ((∀ q, ¬ rdS (TL.tl x) q) → e (.ref C) A)
theorem ok_read_share (T : Txt K mg) : Fn P w K mg base "read_share" 3 (ct_read_share T.C_NoText) := by
  refine fn_mk T.d_read_share sc_read_share (fun ds A k e h => ?_) fun f cdv A0 outer s H E hr hp htk ds A kk ee h => ?_
  · obtain ⟨x, rfl, _⟩ := h; rfl
  obtain ⟨x, rfl, hl, hk, he⟩ := h
  have hz : x.length ≤ sizeLine := Nat.le_of_lt (small_sz (by omega))
  refine as_if (bb := false) (AT.is (at_not (at_val (av_isi rfl T.m_isinstance (avs_c (av_var (i := 0) rfl (.inl rfl) rfl) (avs_c (av_ty rfl T.m_str bo_str) avs_nil)) (.str _) kt_str_str))) (by rfl)) (fun hb => nomatch hb) (fun _ => as_end ?_)
  by_cases h47 : 47 ∈ TL.tl x
  · skip
    obtain ⟨la, lb, e47, n47⟩ := first_sign 47 _ h47
    obtain ⟨a, ha⟩ : ∃ a : Str, TL.tl a = la := ⟨⟨la.toArray⟩, rfl⟩
    obtain ⟨b, hb⟩ : ∃ b : Str, TL.tl b = lb := ⟨⟨lb.toArray⟩, rfl⟩
    subst ha hb
    have ex : x = a ++ "/" ++ b := TL.ext_tl (by rw [e47, TL.tl_append, TL.tl_append, List.append_assoc]; rfl)
    have hlx : x.length = a.length + 1 + b.length := by rw [TL.len_tl, e47, List.length_append, List.length_cons, ← TL.len_tl, ← TL.len_tl]; omega
    refine as_cons (a1_asg (AV.ae (AV.is (av_parts (av_var (i := 0) rfl (.inl rfl) rfl) av_str (by decide) hz) (show _ = D.tup [.str a, .str "/", .str b] by rw [ex, TL.partition_app (y := "/") (s := 47) (S := []) rfl n47])) ⟨_, (ag_tup rfl (ags_cons (ag_name (i := 1) sc_read_share.nd rfl (.inl rfl)) (ags_cons (ag_name (i := 2) sc_read_share.nd rfl (.inl rfl)) (ags_cons (ag_name (i := 3) sc_read_share.nd rfl (.inl rfl)) ags_nil)))), ?_⟩))
    refine AS.ro (ρ' := [some (.str x), some (.str a), some (.str "/"), some (.str b), none]) ?_
    refine as_if (bb := false) (AT.is (at_eqS (av_var (i := 2) rfl (.inl rfl) rfl) av_str) (by rfl)) (fun hb => nomatch hb) (fun _ => as_end ?_)
    refine as_cons (a1_setx (i := 4) sc_read_share.nd rfl (.inl rfl) (aex_tup (aesx_cons (aex_call (ok_read_whole T) htk (hr.mono (by decide)) rfl (AVs.aes (avs_c (av_var (i := 1) rfl (.inl rfl) rfl) avs_nil) ⟨a, rfl, by omega, fun ok1 => aesx_cons (aex_call (ok_read_whole T) htk (hr.mono (by decide)) rfl (AVs.aes (avs_c (av_var (i := 3) rfl (.inl rfl) rfl) avs_nil) ⟨b, rfl, by omega, fun ok2 => aesx_nil ⟨Nat.le_of_ble_eq_true rfl, ?_⟩, fun no => he fun q h => h.elim (fun h => h.1 h47) fun ⟨a2, b2, e2, n2, o1, o2, _⟩ => by rw [e47] at e2; obtain ⟨rfl, rfl⟩ := first_uniq e2 n47 n2; exact no o2⟩)), fun no => he fun q h => h.elim (fun h => h.1 h47) fun ⟨a2, b2, e2, n2, o1, o2, _⟩ => by rw [e47] at e2; obtain ⟨rfl, rfl⟩ := first_uniq e2 n47 n2; exact no o1⟩)))))
    refine AS.ro (ρ' := [some (.str x), some (.str a), some (.str "/"), some (.str b), some (.tup [.int (valW (TL.tl a)), .int (valW (TL.tl b))])]) ?_
    obtain ⟨q, hq⟩ : ∃ q : Rat, q = (valW (TL.tl a) : Rat) / (valW (TL.tl b) : Rat) := ⟨_, rfl⟩
    by_cases hb2 : valW (TL.tl b) < 2
    · refine as_if (bb := true) (AT.is (AW.at (aw_or (b1 := true) (b2 := true) (AT.is (at_lt (av_ixT (av_var (i := 4) rfl (.inl rfl) rfl) av_int rfl) av_int) (by simp [hb2])) fun h => nomatch h)) (by rfl)) (fun _ => ?_) (fun h => nomatch h)
      exact as_cons (a1_raiseF T.e_NoText rfl htk rfl (he fun q h => h.elim (fun h => h.1 h47) fun ⟨a2, b2, e2, n2, o1, o2, o3, _⟩ => by rw [e47] at e2; obtain ⟨rfl, rfl⟩ := first_uniq e2 n47 n2; omega))
    have hb0 : valW (TL.tl b) ≠ 0 := by omega
    refine as_if (AW.at (aw_or (at_lt (av_ixT (av_var (i := 4) rfl (.inl rfl) rfl) av_int rfl) av_int) fun _ => (aw_or1 (at_neE (eT eI eI (dn_eI.up (by decide)) (dn_eI.up (by decide))) (x := (q.num, (q.den : Int))) (y := (valW (TL.tl a), valW (TL.tl b))) hr (AV.is (AE.av (ae_call (ok_share T) (hr.mono (by decide)) rfl (AVs.aes (avs_c (av_ixT (av_var (i := 4) rfl (.inl rfl) rfl) av_int rfl) (avs_c (av_ixT (av_var (i := 4) rfl (.inl rfl) rfl) av_int rfl) avs_nil)) ⟨_, _, rfl, fun h => absurd h hb0, fun _ => ⟨bt_le (valW_bd ok2) (by decide), ⟨rfl, Ext.refl _⟩⟩⟩))) (show _ = D.tup [.int q.num, .int (q.den : Int)] by rw [hq]; rfl)) (av_var (i := 4) rfl (.inl rfl) rfl))))) (fun h8 => ?_) (fun h8 => as_end ?_)
    · rw [decide_eq_false hb2, Bool.false_or, Bool.not_eq_true', decide_eq_false_iff_not] at h8
      refine as_cons (a1_raiseF T.e_NoText rfl htk rfl (he fun r h => h.elim (fun h => h.1 h47) fun ⟨a2, b2, e2, n2, o1, o2, o3, o4, o5⟩ => ?_))
      rw [e47] at e2
      obtain ⟨rfl, rfl⟩ := first_uniq e2 n47 n2
      have er : r = q := by rw [hq, ← o4, ← o5]; exact num_denT r
      exact h8 (by rw [← er, o4, o5])
    rw [decide_eq_false hb2, Bool.false_or, Bool.not_eq_false', decide_eq_true_eq] at h8
    injection h8 with h8a h8b
    have hkq := hk q (.inr ⟨_, _, e47, n47, ok1, ok2, by omega, h8a, h8b⟩)
    refine as_retv (AV.is (av_var (i := 4) rfl (.inl rfl) rfl) (show _ = sh q by show _ = D.tup [.int q.num, .int (q.den : Int)]; rw [h8a, h8b])) hkq
  refine as_cons (a1_asg (AV.ae (AV.is (av_parts (av_var (i := 0) rfl (.inl rfl) rfl) av_str (by decide) hz) (show _ = D.tup [.str x, .str "", .str ""] by rw [TL.partition_none (y := "/") (s := 47) (S := []) rfl h47]; rfl)) ⟨_, (ag_tup rfl (ags_cons (ag_name (i := 1) sc_read_share.nd rfl (.inl rfl)) (ags_cons (ag_name (i := 2) sc_read_share.nd rfl (.inl rfl)) (ags_cons (ag_name (i := 3) sc_read_share.nd rfl (.inl rfl)) ags_nil)))), ?_⟩))
  refine AS.ro (ρ' := [some (.str x), some (.str x), some (.str ""), some (.str ""), none]) ?_
  refine as_if (bb := true) (AT.is (at_eqS (av_var (i := 2) rfl (.inl rfl) rfl) av_str) (by rfl)) (fun _ => ?_) (fun hb => nomatch hb)
  refine as_cons (a1_retx (aex_tup (aesx_cons (aex_call (ok_read_whole T) htk (hr.mono (by decide)) rfl (AVs.aes (avs_c (av_var (i := 1) rfl (.inl rfl) rfl) avs_nil) ⟨x, rfl, by omega, fun ok1 => AEs.aesx (AVs.aes (avs_c av_int avs_nil) ⟨Nat.le_of_ble_eq_true rfl, ?_⟩), fun no => he fun q h => h.elim (fun h => no h.2.1) fun ⟨a2, b2, e2, _⟩ => h47 (by rw [e2]; exact List.mem_append_right _ (List.mem_cons_self ..))⟩)))))
  have hkq := hk ((valW (TL.tl x) : Int) : Rat) (.inl ⟨h47, ok1, rfl, rfl⟩)
  exact hkq
def ct_read_point (C : Addr) : Ct := fun ds A k e => ∃ (x : Str), ds = [.str x] ∧ x.length ≤ 1000000 ∧ (∀ p, rdP (TL.tl x) p → k (pt p) A) ∧ ((∀ p, ¬ rdP (TL.tl x) p) → e (.ref C) A)
theorem ok_read_point (T : Txt K mg) : Fn P w K mg base "read_point" 4 (ct_read_point T.C_NoText) := by
  refine fn_mk T.d_read_point sc_read_point (fun ds A k e h => ?_) fun f cdv A0 outer s H E hr hp htk ds A kk ee h => ?_
  · obtain ⟨x, rfl, _⟩ := h; rfl
  obtain ⟨x, rfl, hl, hk, he⟩ := h
  have hz : x.length ≤ sizeLine := Nat.le_of_lt (small_sz (by omega))
  refine as_if (bb := false) (AT.is (at_not (at_val (av_isi rfl T.m_isinstance (avs_c (av_var (i := 0) rfl (.inl rfl) rfl) (avs_c (av_ty rfl T.m_str bo_str) avs_nil)) (.str _) kt_str_str))) (by rfl)) (fun hb => nomatch hb) (fun _ => as_end ?_)
  by_cases h44 : 44 ∈ TL.tl x
  · skip
    obtain ⟨la, lb, e44, n44⟩ := first_sign 44 _ h44
    obtain ⟨a, ha⟩ : ∃ a : Str, TL.tl a = la := ⟨⟨la.toArray⟩, rfl⟩
    obtain ⟨b, hb⟩ : ∃ b : Str, TL.tl b = lb := ⟨⟨lb.toArray⟩, rfl⟩
    subst ha hb
    have ex : x = a ++ "," ++ b := TL.ext_tl (by rw [e44, TL.tl_append, TL.tl_append, List.append_assoc]; rfl)
    have hlx : x.length = a.length + 1 + b.length := by rw [TL.len_tl, e44, List.length_append, List.length_cons, ← TL.len_tl, ← TL.len_tl]; omega
    refine as_cons (a1_asg (AV.ae (AV.is (av_parts (av_var (i := 0) rfl (.inl rfl) rfl) av_str (by decide) hz) (show _ = D.tup [.str a, .str ",", .str b] by rw [ex, TL.partition_app (y := ",") (s := 44) (S := []) rfl n44])) ⟨_, (ag_tup rfl (ags_cons (ag_name (i := 1) sc_read_point.nd rfl (.inl rfl)) (ags_cons (ag_name (i := 2) sc_read_point.nd rfl (.inl rfl)) (ags_cons (ag_name (i := 3) sc_read_point.nd rfl (.inl rfl)) ags_nil)))), ?_⟩))
    refine AS.ro (ρ' := [some (.str x), some (.str a), some (.str ","), some (.str b)]) ?_
    refine as_cons (a1_retx (aex_tup (aesx_cons (aex_call (ok_read_share T) htk (hr.mono (by decide)) rfl (AVs.aes (avs_c (av_var (i := 1) rfl (.inl rfl) rfl) avs_nil) ⟨a, rfl, by omega, fun q1 ok1 => aesx_cons (aex_call (ok_read_share T) htk (hr.mono (by decide)) rfl (AVs.aes (avs_c (av_var (i := 3) rfl (.inl rfl) rfl) avs_nil) ⟨b, rfl, by omega, fun q2 ok2 => aesx_nil ⟨Nat.le_of_ble_eq_true rfl, hk (q1, q2) ⟨_, _, e44, n44, ok1, ok2⟩⟩, fun no => he fun p h => by obtain ⟨a2, b2, e2, n2, o1, o2⟩ := h; rw [e44] at e2; obtain ⟨rfl, rfl⟩ := first_uniq e2 n44 n2; exact no _ o2⟩)), fun no => he fun p h => by obtain ⟨a2, b2, e2, n2, o1, o2⟩ := h; rw [e44] at e2; obtain ⟨rfl, rfl⟩ := first_uniq e2 n44 n2; exact no _ o1⟩)))))
  refine as_cons (a1_asg (AV.ae (AV.is (av_parts (av_var (i := 0) rfl (.inl rfl) rfl) av_str (by decide) hz) (show _ = D.tup [.str x, .str "", .str ""] by rw [TL.partition_none (y := ",") (s := 44) (S := []) rfl h44]; rfl)) ⟨_, (ag_tup rfl (ags_cons (ag_name (i := 1) sc_read_point.nd rfl (.inl rfl)) (ags_cons (ag_name (i := 2) sc_read_point.nd rfl (.inl rfl)) (ags_cons (ag_name (i := 3) sc_read_point.nd rfl (.inl rfl)) ags_nil)))), ?_⟩))
  refine AS.ro (ρ' := [some (.str x), some (.str x), some (.str ""), some (.str "")]) ?_
  have hno : ∀ p, ¬ rdP (TL.tl x) p := fun p ⟨a2, b2, e2, _⟩ => h44 (by rw [e2]; exact List.mem_append_right _ (List.mem_cons_self ..))
  have hl0 : (("" : Str)).length ≤ 1000000 := by decide
  refine as_cons (a1_retx (aex_tup (aesx_cons (aex_call (ok_read_share T) htk (hr.mono (by decide)) rfl (AVs.aes (avs_c (av_var (i := 1) rfl (.inl rfl) rfl) avs_nil) ⟨x, rfl, by omega, fun q1 ok1 => aesx_cons (aex_call (ok_read_share T) htk (hr.mono (by decide)) rfl (AVs.aes (avs_c (av_var (i := 3) rfl (.inl rfl) rfl) avs_nil) ⟨"", rfl, hl0, fun q2 ok2 => absurd ok2 (rdS_nil q2), fun _ => he hno⟩)), fun _ => he hno⟩)))))
/-- a desk at p with its book at b -/
def bookA (bk : List (Str × List Pt)) : List (Str × D) := bk.map fun q => (q.1, fzs pt q.2)
structure IsDesk (C : Addr) (A : AH) (p b : Addr) (bk : List (Str × List Pt)) : Prop where
  at_ : ∃ y, A p = some (.ins C y [("book", .ref b)])
  bk : A b = some (dkS (bookA bk))
theorem IsDesk.ne {C : Addr} {A : AH} {p b : Addr} {bk : List (Str × List Pt)} (h : IsDesk C A p b bk) : p ≠ b := fun e => by
  obtain ⟨y, h1⟩ := h.at_
  rw [e, h.bk] at h1
  cases h1
def ct_Desk___init__ (C : Addr) : Ct := fun ds A k _ => ∃ (x y : Addr), ds = [.ref x] ∧ A x = some (.ins C y []) ∧ ∀ b, A b = none → k .non (aupd (aupd A b (dkS [])) x (.ins C y [("book", .ref b)]))
theorem ok_Desk___init__ (T : Txt K mg) : Ini P w K mg base T.C_Desk 1 (ct_Desk___init__ T.C_Desk) := by
  refine in_mk T.d_Desk___init__ sc_Desk___init__ (fun ds A k e h => ?_) fun f cdv A0 outer s H E hr hp htk ds A kk ee h => ?_
  · obtain ⟨x, y, rfl, _⟩ := h; rfl
  obtain ⟨x, y, rfl, hx, hk⟩ := h
  refine as_cons (a1_fldE T.l_Desk.c T.n_Desk_book (ae_dictS fun b hb => ⟨av_var (i := 0) rfl (.inl rfl) rfl, [], by rw [aupd_ne (fun e => by rw [e, hb] at hx; cases hx)]; exact hx, by decide, ?_⟩))
  exact as_nil (hk b hb)
def ct_Desk_put (C : Addr) : Ct := fun ds A k _ => ∃ (p b : Addr) (bk : List (Str × List Pt)) (n : Str) (row : List Pt), ds = [.ref p, .str n, fzs pt row] ∧ IsDesk C A p b bk ∧ bk.length ≤ 1000 ∧ k (.str "ok") (aupd A b (dkS (putS (bookA bk) n (fzs pt row))))
theorem ok_Desk_put (T : Txt K mg) : Mt P w K mg base T.C_Desk "put" 1 (ct_Desk_put T.C_Desk) := by
  refine mt_mk T.d_Desk_put sc_Desk_put (fun ds A k e h => ?_) fun f cdv A0 outer s H E hr hp htk ds A kk ee h => ?_
  · obtain ⟨p, b, bk, n, row, rfl, _⟩ := h; rfl
  obtain ⟨p, b, bk, n, row, rfl, hD, hl, hk⟩ := h
  obtain ⟨y, h1⟩ := hD.at_
  refine as_cons (a1_setS hr (av_var (i := 2) rfl (.inl rfl) rfl) (av_fld T.l_Desk.c T.n_Desk_book (av_var (i := 0) rfl (.inl rfl) rfl) h1 rfl) (av_var (i := 1) rfl (.inl rfl) rfl) hD.bk (small1000 (by unfold bookA; rw [List.length_map]; omega)) ?_)
  exact as_retv av_str hk
/-- what a name is -/
def NameL (l : List Nat) : Prop := 1 ≤ l.length ∧ l.length ≤ 12 ∧ ∀ c ∈ l, 97 ≤ c ∧ c ≤ 122
theorem small_sz2 {n : Nat} (h : n < 2000000) : n < sizeLine := by rw [sizeLine_eq]; omega
def ct_read_name (C : Addr) : Ct := fun ds A k e => ∃ (x : Str), ds = [.str x] ∧ x.length ≤ 1000000 ∧ (NameL (TL.tl x) → k (.str x) A) ∧ (¬ NameL (TL.tl x) → e (.ref C) A)
theorem ok_read_name (T : Txt K mg) : Fn P w K mg base "read_name" 1 (ct_read_name T.C_NoText) := by
  refine fn_mk T.d_read_name sc_read_name (fun ds A k e h => ?_) fun f cdv A0 outer s H E hr hp htk ds A kk ee h => ?_
  · obtain ⟨x, rfl, _⟩ := h; rfl
  obtain ⟨x, rfl, hl, hk, he⟩ := h
  have hlx : x.length = (TL.tl x).length := TL.len_tl x
  refine as_if (at_not (at_lele av_int (av_lenS rfl T.m_len (av_var (i := 0) rfl (.inl rfl) rfl) (Nat.le_of_lt (small_sz2 (by omega)))) (av_globI rfl T.g_MOST_LETTERS))) (fun hb => ?_) (fun hb => as_end ?_)
  · have hb : ¬ (1 ≤ (x.length : Int) ∧ (x.length : Int) ≤ 12) := by intro h; simp at hb; omega
    exact as_cons (a1_raiseF T.e_NoText rfl htk rfl (he fun o => hb ⟨by have := o.1; omega, by have := o.2.1; omega⟩))
  have hb : 1 ≤ (x.length : Int) ∧ (x.length : Int) ≤ 12 := by simp at hb; omega
  refine as_cons (a1_for hp rfl (ai_S (av_var (i := 0) rfl (.inl rfl) rfl) ⟨fun i ρ A' => ∃ (y : Option D), ρ = [some (.str x), y] ∧ A = A' ∧ (∀ j, j < i → 97 ≤ (TL.tl x).getD j 0 ∧ (TL.tl x).getD j 0 ≤ 122), ⟨_, rfl, rfl, fun j hj => absurd hj (Nat.not_lt_zero _)⟩, fun i ρ A' hle hI => trivial, fun i ρ A' hi hI => ⟨_, _, (ag_name (i := 1) sc_read_name.nd rfl (.inl rfl)), ?_⟩, fun ρ A' hI => ?_⟩))
  · skip
    obtain ⟨y, rfl, rfl, hd⟩ := hI
    have hcg : x.cps.getD i 0 = (TL.tl x).getD i 0 := by rw [Array.getD_eq_getD_getElem?, List.getD_eq_getElem?_getD, Array.getElem?_toList]
    have hin : ∀ c : Nat, c ∈ (("abcdefghijklmnopqrstuvwxyz" : Str)).cps.toList ↔ 97 ≤ c ∧ c ≤ 122 := fun c => by
      show c ∈ [97, 98, 99, 100, 101, 102, 103, 104, 105, 106, 107, 108, 109, 110, 111, 112, 113, 114, 115, 116, 117, 118, 119, 120, 121, 122] ↔ _
      simp only [List.mem_cons, List.not_mem_nil, or_false]
      omega
    refine as_if (at_notInSg (av_var (i := 1) rfl (.inl rfl) rfl) (av_globS rfl T.g_LETTERS)) (fun hc9 => ?_) (fun hc9 => as_end ?_)
    · have hc9 : ¬ (97 ≤ (TL.tl x).getD i 0 ∧ (TL.tl x).getD i 0 ≤ 122) := by
        rw [Bool.not_eq_true', decide_eq_false_iff_not, hin, hcg] at hc9
        exact hc9
      have hil : i < (TL.tl x).length := by rw [← hlx]; exact hi
      exact as_cons (a1_raiseF T.e_NoText rfl htk rfl (he fun o => hc9 (o.2.2 _ (by rw [List.getD_eq_getElem?_getD, List.getElem?_eq_getElem hil]; exact List.getElem_mem hil))))
    have hc9 : 97 ≤ (TL.tl x).getD i 0 ∧ (TL.tl x).getD i 0 ≤ 122 := by
      rw [Bool.not_eq_false', decide_eq_true_eq, hin, hcg] at hc9
      exact hc9
    exact as_nil ⟨_, rfl, rfl, fun j hj => (Nat.lt_succ_iff_lt_or_eq.mp hj).elim (hd j) (fun e => by subst e; exact hc9)⟩
  obtain ⟨y, rfl, rfl, hd⟩ := hI
  refine as_retv (av_var (i := 0) rfl (.inl rfl) rfl) (hk ⟨by omega, by omega, fun c hc => ?_⟩)
  obtain ⟨j, hj, e⟩ := List.getElem_of_mem hc
  have := hd j (by show j < x.length; rw [hlx]; exact hj)
  rw [List.getD_eq_getElem?_getD, List.getElem?_eq_getElem hj, Option.getD_some, e] at this
  exact this
/-- what a level is -/
def LevelL (l : List Nat) (i : Int) : Prop := ∃ c : Nat, l = [c] ∧ 48 ≤ c ∧ c ≤ 54 ∧ i = (c : Int) - 48
def ct_read_level (C : Addr) : Ct := fun ds A k e => ∃ (x : Str), ds = [.str x] ∧ x.length ≤ 1000000 ∧ (∀ i, LevelL (TL.tl x) i → k (.int i) A) ∧ ((∀ i, ¬ LevelL (TL.tl x) i) → e (.ref C) A)
theorem ok_read_level (T : Txt K mg) : Fn P w K mg base "read_level" 1 (ct_read_level T.C_NoText) := by
  refine fn_mk T.d_read_level sc_read_level (fun ds A k e h => ?_) fun f cdv A0 outer s H E hr hp htk ds A kk ee h => ?_
  · obtain ⟨x, rfl, _⟩ := h; rfl
  obtain ⟨x, rfl, hl, hk, he⟩ := h
  have hlx : x.length = (TL.tl x).length := TL.len_tl x
  by_cases h1 : x.length = 1
  · obtain ⟨c, hc⟩ : ∃ c, TL.tl x = [c] := by
      rw [hlx] at h1
      match hz : TL.tl x, h1 with
      | [c], _ => exact ⟨c, rfl⟩
    have ex : x = ⟨#[c]⟩ := TL.ext_tl (by rw [hc])
    subst ex
    have hin : c ∈ (("0123456" : Str)).cps.toList ↔ 48 ≤ c ∧ c ≤ 54 := by
      show c ∈ [48, 49, 50, 51, 52, 53, 54] ↔ _
      simp only [List.mem_cons, List.not_mem_nil, or_false]
      omega
    refine as_if (AW.at (aw_or (at_ne (av_lenS rfl T.m_len (av_var (i := 0) rfl (.inl rfl) rfl) (Nat.le_of_lt (small_sz2 (by omega)))) av_int) fun _ => (aw_or1 (at_notInSg (av_var (i := 0) rfl (.inl rfl) rfl) av_str)))) (fun hb => ?_) (fun hb => as_end ?_)
    · refine as_cons (a1_raiseF T.e_NoText rfl htk rfl (he fun i ⟨c', e, h2, h3, _⟩ => ?_))
      have e : c = c' := by rw [hc] at e; exact (List.cons.inj e).1
      subst e
      have := hin.mpr ⟨h2, h3⟩
      simp [this, h1] at hb
    have hc9 : 48 ≤ c ∧ c ≤ 54 := by
      refine hin.mp (Classical.byContradiction fun hn => ?_)
      simp [hn] at hb
    have ho : okW (TL.tl (⟨#[c]⟩ : Str)) := by
      rw [hc]
      have hf : figs [c] = [c] := by
        unfold figs
        rw [if_neg (by intro e; have := Option.some.inj e; omega)]
      refine ⟨by rw [hf]; simp, by rw [hf]; simp, ?_, fun h => ?_⟩
      · rw [hf]
        intro z hz
        rw [List.mem_singleton.mp hz]
        omega
      · rw [hf] at h
        rw [Option.some.inj h]
    have hv : valW (TL.tl (⟨#[c]⟩ : Str)) = (c : Int) - 48 := by
      rw [hc]
      unfold valW
      rw [if_neg (by intro e; have := Option.some.inj e; omega)]
      have : NumText.digitsVal [c] = c - 48 := by simp [NumText.digitsVal]
      rw [this]
      omega
    refine as_retv (av_intS rfl T.m_int (av_var (i := 0) rfl (.inl rfl) rfl) (int_ok ho) (by omega)) ?_
    rw [hv]
    exact hk _ ⟨c, hc, hc9.1, hc9.2, rfl⟩
  · refine as_if (bb := true) (AT.is (AW.at (aw_or (b1 := true) (b2 := true) (AT.is (at_ne (av_lenS rfl T.m_len (av_var (i := 0) rfl (.inl rfl) rfl) (Nat.le_of_lt (small_sz2 (by omega)))) av_int) (by simp; omega)) fun h => nomatch h)) (by rfl)) (fun _ => ?_) (fun h => nomatch h)
    exact as_cons (a1_raiseF T.e_NoText rfl htk rfl (he fun i ⟨c, e, _⟩ => h1 (by rw [hlx, e]; rfl)))
/-- what a word is by its shape -/
def WordV (c : Nat) (x : Str) (d : D) : Prop := if c = 115 then ∃ q, rdS (TL.tl x) q ∧ d = sh q else if c = 108 then ∃ i, LevelL (TL.tl x) i ∧ d = .int i else NameL (TL.tl x) ∧ d = .str x
def ct_read_word (C : Addr) : Ct := fun ds A k e => ∃ (x : Str) (c : Nat), ds = [.str x, .str ⟨#[c]⟩] ∧ x.length ≤ 1000000 ∧ (∀ d, WordV c x d → k d A) ∧ ((∀ d, ¬ WordV c x d) → e (.ref C) A)
theorem sign_eq {c d : Nat} : ((⟨#[c]⟩ : Str) = ⟨#[d]⟩) ↔ c = d := by
  constructor
  · intro e
    have := congrArg TL.tl e
    have h9 : [c] = [d] := this
    injection h9
  · intro e; rw [e]
theorem ok_read_word (T : Txt K mg) : Fn P w K mg base "read_word" 4 (ct_read_word T.C_NoText) := by
  refine fn_mk T.d_read_word sc_read_word (fun ds A k e h => ?_) fun f cdv A0 outer s H E hr hp htk ds A kk ee h => ?_
  · obtain ⟨x, c, rfl, _⟩ := h; rfl
  obtain ⟨x, c, rfl, hl, hk, he⟩ := h
  have es : ((("s" : Str)) = ⟨#[115]⟩) := rfl
  have el : ((("l" : Str)) = ⟨#[108]⟩) := rfl
  refine as_if (at_eqS (av_var (i := 1) rfl (.inl rfl) rfl) av_str) (fun hb => ?_) (fun hb => as_end ?_)
  · have hb : c = 115 := sign_eq.mp (of_decide_eq_true hb)
    refine as_cons (a1_retx (aex_call (ok_read_share T) htk (hr.mono (by decide)) rfl (AVs.aes (avs_c (av_var (i := 0) rfl (.inl rfl) rfl) avs_nil) ⟨x, rfl, hl, fun q h => hk _ (by unfold WordV; rw [if_pos hb]; exact ⟨q, h, rfl⟩), fun no => he fun d h => ?_⟩)))
    unfold WordV at h
    rw [if_pos hb] at h
    obtain ⟨q, h, _⟩ := h
    exact no q h
  have hb : ¬ c = 115 := fun z => of_decide_eq_false hb (sign_eq.mpr z)
  refine as_if (at_eqS (av_var (i := 1) rfl (.inl rfl) rfl) av_str) (fun hb2 => ?_) (fun hb2 => as_end ?_)
  · have hb2 : c = 108 := sign_eq.mp (of_decide_eq_true hb2)
    refine as_cons (a1_retx (aex_call (ok_read_level T) htk (hr.mono (by decide)) rfl (AVs.aes (avs_c (av_var (i := 0) rfl (.inl rfl) rfl) avs_nil) ⟨x, rfl, hl, fun i h => hk _ (by unfold WordV; rw [if_neg hb, if_pos hb2]; exact ⟨i, h, rfl⟩), fun no => he fun d h => ?_⟩)))
    unfold WordV at h
    rw [if_neg hb, if_pos hb2] at h
    obtain ⟨i, h, _⟩ := h
    exact no i h
  have hb2 : ¬ c = 108 := fun z => of_decide_eq_false hb2 (sign_eq.mpr z)
  refine as_cons (a1_retx (aex_call (ok_read_name T) htk (hr.mono (by decide)) rfl (AVs.aes (avs_c (av_var (i := 0) rfl (.inl rfl) rfl) avs_nil) ⟨x, rfl, hl, fun h => hk _ (by unfold WordV; rw [if_neg hb, if_neg hb2]; exact ⟨h, rfl⟩), fun no => he fun d h => ?_⟩)))
  unfold WordV at h
  rw [if_neg hb, if_neg hb2] at h
  exact no h.1
/-- the point that a text is read to, if it is read -/
noncomputable def ptOf (x : Str) : Pt := by
  classical
  exact if h : ∃ p, rdP (TL.tl x) p then h.choose else (0, 0)
theorem ptOf_rd {x : Str} (h : ∃ p, rdP (TL.tl x) p) : rdP (TL.tl x) (ptOf x) := by
  unfold ptOf
  rw [dif_pos h]
  exact h.choose_spec
def ct_read_curve (C : Addr) : Ct := fun ds A k e => ∃ (x : Str), ds = [.str x] ∧ x.length ≤ 500000 ∧ (∀ row, rdC x row → ∀ p, A p = none → k (.ref p) (aupd A p (.lst (row.map pt)))) ∧ ((∀ row, ¬ rdC x row) → ∀ A', Ext A A' → e (.ref C) A')
theorem ok_read_curve (T : Txt K mg) : Fn P w K mg base "read_curve" 5 (ct_read_curve T.C_NoText) := by
  refine fn_mk T.d_read_curve sc_read_curve (fun ds A k e h => ?_) fun f cdv A0 outer s H E hr hp htk ds A kk ee h => ?_
  · obtain ⟨x, rfl, _⟩ := h; rfl
  obtain ⟨x, rfl, hl, hk, he⟩ := h
  refine as_if (bb := false) (AT.is (at_not (at_val (av_isi rfl T.m_isinstance (avs_c (av_var (i := 0) rfl (.inl rfl) rfl) (avs_c (av_ty rfl T.m_str bo_str) avs_nil)) (.str _) kt_str_str))) (by rfl)) (fun hb => nomatch hb) (fun _ => as_end ?_)
  obtain ⟨ps, hpe⟩ : ∃ ps, ps = Txt.split x " " := ⟨_, rfl⟩
  have hpn : ∀ i, i < ps.length → (ps.getD i default).length ≤ 1000000 := fun i hi => by
    have h1 := split_part_len x (by rw [← hpe, List.getD_eq_getElem?_getD, List.getElem?_eq_getElem hi]; exact List.getElem_mem hi : ps.getD i default ∈ Txt.split x " ")
    omega
  have hrd : ∀ row, rdC x row ↔ ps.length ≤ 12 ∧ row.length = ps.length ∧ ∀ i, i < row.length → rdP (TL.tl (ps.getD i default)) (gp row i) := fun row => by rw [hpe]; exact Iff.rfl
  refine as_set (i := 1) sc_read_curve.nd rfl (.inl rfl) (AV.ae (AV.is (av_split (av_var (i := 0) rfl (.inl rfl) rfl) av_str (by decide) (Nat.le_of_lt (small_sz (by omega)))) (show _ = D.fz (ps.map D.str) by rw [hpe])) ?_)
  refine as_if (at_gt (av_lenD rfl T.m_len (av_var (i := 1) rfl (.inl rfl) rfl) IsL.fz) (av_globI rfl T.g_MOST_PARTS)) (fun hb => ?_) (fun hb => as_end ?_)
  · have hb : (12 : Int) < ((ps.map D.str).length : Int) := by simpa using hb
    rw [List.length_map] at hb
    exact as_cons (a1_raiseF T.e_NoText rfl htk rfl (he (fun row h => by have := ((hrd row).mp h).1; omega) _ (Ext.refl _)))
  have hb : ps.length ≤ 12 := by
    have : ¬ (12 : Int) < (ps.length : Int) := by simpa using hb
    omega
  refine as_cons (a1_retx (aex_lcV rfl rfl rfl sc_read_curve.nd htk (blkOk_by rfl) (own := [("part", 2)]) (is := [2]) (g := fun i => pt (ptOf (ps.getD i default))) (good := fun i => ∃ p, rdP (TL.tl (ps.getD i default)) p) (by decide) (ai_F (default : Str) (f := D.str) (av_var (i := 1) rfl (.inl rfl) rfl) ⟨rfl, Ext.refl _, (Nat.le_of_lt (small1000 (by omega))), (fun _ x => trivial), fun i hi => ⟨_, fun s H C cl fp xe => ⟨(ag_name (i := 2) sc_read_curve.nd rfl (.inl rfl)), fun A' x9 k9 hk9 => aey_call (ok_read_point T) (hr.mono (by decide)) rfl (AVs.aes (avs_c (av_var (i := 2) rfl (.inl rfl) rfl) avs_nil) ⟨_, rfl, hpn i hi, fun p h => ?_, fun no => ?_⟩)⟩⟩⟩) fun hg p hp9 => ?_))
  · rw [rdP_one h (ptOf_rd ⟨p, h⟩)]
    exact hk9 ⟨p, h⟩
  · exact he (fun row h => no _ (((hrd row).mp h).2.2 i (by have := ((hrd row).mp h).2.1; omega))) _ x9
  have hz := hk ((List.range ps.length).map fun i => ptOf (ps.getD i default)) ((hrd _).mpr ⟨hb, by simp, fun i hi => by
    have hi' : i < ps.length := by simpa using hi
    have e : gp ((List.range ps.length).map fun i => ptOf (ps.getD i default)) i = ptOf (ps.getD i default) := by
      unfold gp
      rw [List.getD_eq_getElem?_getD, List.getElem?_map, List.getElem?_range hi']; rfl
    rw [e]
    exact ptOf_rd (hg i hi')⟩) p hp9
  rw [List.map_map] at hz
  exact hz
theorem WordV_one {c : Nat} {x : Str} {d d' : D} (h : WordV c x d) (g : WordV c x d') : d = d' := by
  unfold WordV at h g
  split at h
  · rename_i hc
    rw [if_pos hc] at g
    obtain ⟨q, h1, rfl⟩ := h
    obtain ⟨r, h2, rfl⟩ := g
    rw [rdS_one h1 h2]
  · rename_i hc
    rw [if_neg hc] at g
    split at h
    · rename_i hc2
      rw [if_pos hc2] at g
      obtain ⟨i, ⟨a, e1, _, _, rfl⟩, rfl⟩ := h
      obtain ⟨j, ⟨b, e2, _, _, rfl⟩, rfl⟩ := g
      rw [e1] at e2
      cases e2
      rfl
    · rename_i hc2
      rw [if_neg hc2] at g
      rw [h.2, g.2]
noncomputable def wdOf (c : Nat) (x : Str) : D := by
  classical
  exact if h : ∃ d, WordV c x d then h.choose else .non
theorem wdOf_ok {c : Nat} {x : Str} (h : ∃ d, WordV c x d) : WordV c x (wdOf c x) := by
  unfold wdOf
  rw [dif_pos h]
  exact h.choose_spec
/-- what a row is read to: its words, the first, the rest of a curve's -/
def RowV (ps : List Str) (d : D) : Prop :=
  (ps.getD 0 default = "curve" ∧ 2 < ps.length ∧ ∃ row, NameL (TL.tl (ps.getD 1 default)) ∧ rdC (Str.join " " (ps.drop 2)) row ∧ d = .tup [.str "curve", .fz [.str (ps.getD 1 default), fzs pt row]]) ∨
  (¬ (ps.getD 0 default = "curve" ∧ 2 < ps.length) ∧ ∃ sh, lkT kvs_SHAPES (ps.getD 0 default) = some sh ∧ sh.cps.size + 1 = ps.length ∧ (∀ i, i < sh.cps.size → ∃ v, WordV (sh.cps.getD i 0) (ps.getD (i + 1) default) v) ∧
    d = .tup [.str (ps.getD 0 default), .fz ((List.range sh.cps.size).map fun i => wdOf (sh.cps.getD i 0) (ps.getD (i + 1) default))])
def ct_read_row (N : Addr) : Ct := fun ds A k e => ∃ (x : Str), ds = [.str x] ∧ x.length ≤ 200000 ∧ (∀ d, RowV (Txt.split x " ") d → k d A) ∧ ((∀ d, ¬ RowV (Txt.split x " ") d) → ∀ A', Ext A A' → e (.ref N) A')
theorem shapes_small : ∀ {w sh : Str}, lkT kvs_SHAPES w = some sh → sh.cps.size ≤ 10 := by
  intro w sh h
  have hall : ∀ q ∈ kvs_SHAPES, q.2.cps.size ≤ 10 := by decide
  unfold lkT at h
  obtain ⟨q, hq, rfl⟩ := Option.map_eq_some_iff.mp h
  exact hall q (List.mem_of_find?_eq_some hq)
theorem drop_len {x : Str} (ps : List Str) (h : ∀ p ∈ ps, p.length ≤ x.length) : ∀ p ∈ ps.drop 2, p.length ≤ x.length := fun p hp => h p (List.mem_of_mem_drop hp)
theorem spl_pos (S : List Nat) : ∀ (l acc : List Nat) (k : Nat), 0 < (TL.spl S k acc l).length
  | [], acc, k => by rw [TL.spl_nil]; simp
  | c :: r, acc, k + 1 => spl_pos S r acc k
  | c :: r, acc, 0 => by
    cases h : TL.pre S (c :: r) with
    | true => rw [TL.spl_hit h]; simp
    | false => rw [TL.spl_miss h]; exact spl_pos S r (acc ++ [c]) 0
theorem split_pos1 (x : Str) : 0 < (Txt.split x " ").length := by
  have := spl_pos (TL.tl " ") (TL.tl x) [] 0
  rw [← TL.split_spl _ _ (by decide) (TL.kind_ok (all256 (l := [32]) rfl rfl)), List.length_map] at this
  exact this
theorem split_pos2 (x : Str) : 0 < (Txt.split x " | ").length := by
  have := spl_pos (TL.tl " | ") (TL.tl x) [] 0
  rw [← TL.split_spl _ _ (by decide) (TL.kind_ok (all256 (l := [32, 124, 32]) rfl rfl)), List.length_map] at this
  exact this
theorem rdC_one {x : Str} {r s : List Pt} (h : rdC x r) (g : rdC x s) : r = s := by
  have hl : r.length = s.length := h.2.1.trans g.2.1.symm
  refine List.ext_getElem hl fun i h1 h2 => ?_
  have a := h.2.2 i h1
  have b := g.2.2 i h2
  have e := rdP_one a b
  unfold gp at e
  rw [List.getD_eq_getElem?_getD, List.getElem?_eq_getElem h1, List.getD_eq_getElem?_getD, List.getElem?_eq_getElem h2] at e
  exact e
/-! what is read: its signs -/
def okC (c : Nat) : Prop := c = 45 ∨ c = 47 ∨ (48 ≤ c ∧ c ≤ 57)
theorem okW_sign {l : List Nat} (h : okW l) : ∀ c ∈ l, c = 45 ∨ (48 ≤ c ∧ c ≤ 57) := fun c hc => by
  have hd := h.2.2.1
  unfold figs at hd
  split at hd
  · rename_i e
    cases l with
    | nil => cases hc
    | cons a t =>
      rcases List.mem_cons.mp hc with rfl | hc
      · exact .inl (Option.some.inj e)
      · exact .inr (hd c hc)
  · exact .inr (hd c hc)
theorem rdS_sign {l : List Nat} {q : Rat} (h : rdS l q) : ∀ c ∈ l, okC c := fun c hc => by
  rcases h with ⟨_, h, _⟩ | ⟨a, b, rfl, _, h1, h2, _⟩
  · exact (okW_sign h c hc).imp id .inr
  · rcases List.mem_append.mp hc with hc | hc
    · exact (okW_sign h1 c hc).imp id .inr
    · rcases List.mem_cons.mp hc with rfl | hc
      · exact .inr (.inl rfl)
      · exact (okW_sign h2 c hc).imp id .inr
theorem rdP_sign {l : List Nat} {p : Pt} (h : rdP l p) : ∀ c ∈ l, c = 44 ∨ okC c := fun c hc => by
  obtain ⟨a, b, rfl, _, h1, h2⟩ := h
  rcases List.mem_append.mp hc with hc | hc
  · exact .inr (rdS_sign h1 c hc)
  · rcases List.mem_cons.mp hc with rfl | hc
    · exact .inl rfl
    · exact .inr (rdS_sign h2 c hc)
theorem rdP_commas {l : List Nat} {p : Pt} (h : rdP l p) : l.count 44 = 1 := by
  obtain ⟨a, b, rfl, ha, _, h2⟩ := h
  have hb : 44 ∉ b := fun hm => by
    rcases rdS_sign h2 44 hm with e | e | e <;> omega
  rw [List.count_append, List.count_cons, List.count_eq_zero_of_not_mem ha, List.count_eq_zero_of_not_mem hb]
  rfl
theorem rdP_nil (p : Pt) : ¬ rdP [] p := fun h => by have := rdP_commas h; simp at this
theorem spl32_hit (acc r : List Nat) : TL.spl [32] 0 acc (32 :: r) = acc :: TL.spl [32] 0 [] r := TL.spl_hit rfl
theorem spl32_miss {acc r : List Nat} {c : Nat} (h : c ≠ 32) : TL.spl [32] 0 acc (c :: r) = TL.spl [32] 0 (acc ++ [c]) r := TL.spl_miss (TL.pre_of_head [] r h)
theorem spl32_sum {c : Nat} (hc : c ≠ 32) : ∀ (l acc : List Nat), ((TL.spl [32] 0 acc l).map (List.count c)).sum = acc.count c + l.count c
  | [], acc => by rw [TL.spl_nil]; simp
  | a :: r, acc => by
    by_cases h : a = 32
    · subst h
      rw [spl32_hit, List.map_cons, List.sum_cons, spl32_sum hc r [], List.count_cons_of_ne (fun e => hc e.symm)]
      simp
    · rw [spl32_miss h, spl32_sum hc r, List.count_append, List.count_cons, List.count_cons]
      simp [List.count_nil]
      omega
theorem spl32_num : ∀ (l acc : List Nat), (TL.spl [32] 0 acc l).length = l.count 32 + 1
  | [], acc => by rw [TL.spl_nil]; simp
  | a :: r, acc => by
    by_cases h : a = 32
    · subst h
      rw [spl32_hit, List.length_cons, spl32_num r [], List.count_cons_self]
    · rw [spl32_miss h, spl32_num r, List.count_cons_of_ne h]
theorem spl32_app : ∀ (a acc b : List Nat), TL.spl [32] 0 acc (a ++ 32 :: b) = TL.spl [32] 0 acc a ++ TL.spl [32] 0 [] b
  | [], acc, b => by rw [List.nil_append, spl32_hit, TL.spl_nil]; rfl
  | c :: r, acc, b => by
    by_cases h : c = 32
    · subst h
      rw [List.cons_append, spl32_hit, spl32_hit, spl32_app r [] b]; rfl
    · rw [List.cons_append, spl32_miss h, spl32_miss h, spl32_app r _ b]
theorem pcs_eq (x : Str) : (Txt.split x " ").map TL.tl = TL.spl [32] 0 [] (TL.tl x) := TL.split_spl _ _ (by decide) (TL.kind_ok (all256 (l := [32]) rfl rfl))
theorem pcs_eq3 (x : Str) : (Txt.split x " | ").map TL.tl = TL.spl [32, 124, 32] 0 [] (TL.tl x) := TL.split_spl _ _ (by decide) (TL.kind_ok (all256 (l := [32, 124, 32]) rfl rfl))
theorem rdC_pcs {x : Str} {row : List Pt} (h : rdC x row) : ∀ l ∈ TL.spl [32] 0 [] (TL.tl x), ∃ p, rdP l p := fun l hl => by
  rw [← pcs_eq] at hl
  obtain ⟨s, hs, rfl⟩ := List.mem_map.mp hl
  obtain ⟨i, hi, rfl⟩ := List.mem_iff_getElem.mp hs
  have := h.2.2 i (by rw [h.2.1]; exact hi)
  rw [List.getD_eq_getElem?_getD, List.getElem?_eq_getElem hi] at this
  exact ⟨_, this⟩
theorem sum_ones {f : List Nat → Nat} : ∀ {ps : List (List Nat)}, (∀ l ∈ ps, f l = 1) → (ps.map f).sum = ps.length
  | [], _ => rfl
  | p :: ps, h => by
    rw [List.map_cons, List.sum_cons, sum_ones (fun l hl => h l (List.mem_cons_of_mem _ hl)), h p (List.mem_cons_self ..), List.length_cons]
    omega
theorem sum_nils {f : List Nat → Nat} : ∀ {ps : List (List Nat)}, (∀ l ∈ ps, f l = 0) → (ps.map f).sum = 0
  | [], _ => rfl
  | p :: ps, h => by
    rw [List.map_cons, List.sum_cons, sum_nils (fun l hl => h l (List.mem_cons_of_mem _ hl)), h p (List.mem_cons_self ..)]
theorem rdC_commas {x : Str} {row : List Pt} (h : rdC x row) : (TL.tl x).count 44 = (TL.tl x).count 32 + 1 := by
  have h1 := spl32_sum (c := 44) (by decide) (TL.tl x) []
  rw [sum_ones fun l hl => (rdC_pcs h l hl).elim fun p hp => rdP_commas hp, spl32_num, List.count_nil, Nat.zero_add] at h1
  exact h1.symm
theorem rdC_sign {x : Str} {row : List Pt} (h : rdC x row) : ∀ c ∈ TL.tl x, c = 32 ∨ c = 44 ∨ okC c := fun c hc => by
  by_cases h32 : c = 32
  · exact .inl h32
  refine .inr (Classical.byContradiction fun hno => ?_)
  have h1 := spl32_sum h32 (TL.tl x) []
  rw [sum_nils fun l hl => List.count_eq_zero_of_not_mem fun hm => (rdC_pcs h l hl).elim fun p hp => hno (rdP_sign hp c hm)] at h1
  have h2 := List.count_pos_iff.mpr hc
  rw [List.count_nil, Nat.zero_add] at h1
  omega
/-- no curve is read from these signs -/
def NoC (l : List Nat) : Prop := ∀ (y : Str) (row : List Pt), TL.tl y = l → ¬ rdC y row
theorem noC_commas {l : List Nat} (h : l.count 44 ≠ l.count 32 + 1) : NoC l := fun y row e g => h (e ▸ rdC_commas g)
theorem noC_sign {l : List Nat} {c : Nat} (h : c ∈ l) (h1 : c ≠ 32) (h2 : c ≠ 44) (h3 : ¬ okC c) : NoC l := fun y row e g => by
  subst e
  rcases rdC_sign g c h with e | e | e
  · exact h1 e
  · exact h2 e
  · exact h3 e
theorem noC_part {ps : List (List Nat)} (hf : ∀ p ∈ ps, 32 ∉ p) {b : List Nat} (hb : b ∈ ps) (hno : ∀ p, ¬ rdP b p) : NoC (TL.joinL [32] ps) := fun y row e g => by
  have h1 := rdC_pcs g b (by
    rw [e, TL.spl_join (by intro e2; rw [e2] at hb; cases hb) hf]
    exact hb)
  exact h1.elim hno
theorem noC_many {l : List Nat} (h : 12 < l.count 32 + 1) : NoC l := fun y row e g => by
  have h1 := g.1
  have h2 := congrArg List.length (pcs_eq y)
  rw [List.length_map, spl32_num, e] at h2
  omega
theorem count_join (c : Nat) (S : List Nat) : ∀ {ps : List (List Nat)}, ps ≠ [] → (TL.joinL S ps).count c = (ps.map (List.count c)).sum + (ps.length - 1) * S.count c
  | [], h => absurd rfl h
  | [p], _ => by simp [TL.joinL]
  | p :: q :: r, _ => by
    have ih := count_join c S (ps := q :: r) (by simp)
    show (p ++ (S ++ TL.joinL S (q :: r))).count c = _
    rw [List.count_append, List.count_append, ih]
    simp only [List.map_cons, List.sum_cons, List.length_cons]
    have : (r.length + 1 + 1 - 1) * S.count c = (r.length + 1 - 1) * S.count c + S.count c := by
      rw [Nat.add_sub_cancel, Nat.add_sub_cancel, Nat.succ_mul]
    omega
theorem ptl_commas (p : Pt) : (ptl p).count 44 = 1 := by
  unfold ptl
  rw [List.count_append, List.count_cons, List.count_eq_zero_of_not_mem (shl_free (by decide) (by decide) (by decide)), List.count_eq_zero_of_not_mem (shl_free (by decide) (by decide) (by decide))]
  rfl
theorem ptl_no {p : Pt} {c : Nat} (h : c ≠ 45) (h1 : c ≠ 47) (h3 : c ≠ 44) (h2 : c < 48 ∨ 57 < c) : c ∉ ptl p := ptl_free h h1 h3 h2
/-- a fault in a curve's text -/
def BadB (b : List Nat) : Prop := 124 ∉ b ∧ (b.count 44 ≠ b.count 32 + 1 ∨ (32 ∉ b ∧ ∀ p, ¬ rdP b p))
theorem bad_text {ps : List (List Nat)} {b : List Nat} {k : Nat} (hps : ∀ l ∈ ps, ∃ p : Pt, l = ptl p) (hk : k < ps.length) (hb : BadB b) : NoC (TL.joinL [32] (ps.take k ++ [b] ++ ps.drop (k + 1))) := by
  have h1 : ∀ l ∈ ps, l.count 44 = 1 := fun l hl => (hps l hl).elim fun p e => e ▸ ptl_commas p
  have h2 : ∀ l ∈ ps, 32 ∉ l := fun l hl => (hps l hl).elim fun p e => e ▸ ptl_no (by decide) (by decide) (by decide) (by decide)
  have hT : ∀ l ∈ ps.take k, l ∈ ps := fun l hl => List.mem_of_mem_take hl
  have hD : ∀ l ∈ ps.drop (k + 1), l ∈ ps := fun l hl => List.mem_of_mem_drop hl
  rcases hb.2 with hc | ⟨h32, hno⟩
  · refine noC_commas ?_
    rw [count_join _ _ (by simp), count_join _ _ (by simp)]
    simp only [List.map_append, List.sum_append, List.map_cons, List.map_nil, List.sum_cons, List.sum_nil]
    rw [sum_ones fun l hl => h1 l (hT l hl), sum_ones fun l hl => h1 l (hD l hl), sum_nils fun l hl => List.count_eq_zero_of_not_mem (h2 l (hT l hl)), sum_nils fun l hl => List.count_eq_zero_of_not_mem (h2 l (hD l hl))]
    simp
    omega
  · refine noC_part (b := b) (fun p hp => ?_) (by simp) hno
    rcases List.mem_append.mp hp with hp | hp
    · rcases List.mem_append.mp hp with hp | hp
      · exact h2 p (hT p hp)
      · rw [List.mem_singleton.mp hp]; exact h32
    · exact h2 p (hD p hp)
theorem bad_free {ps : List (List Nat)} {b : List Nat} {k : Nat} (hps : ∀ l ∈ ps, ∃ p : Pt, l = ptl p) (hb : BadB b) : 124 ∉ TL.joinL [32] (ps.take k ++ [b] ++ ps.drop (k + 1)) := by
  refine joinL_free (by decide) _ fun l hl => ?_
  have h3 : ∀ l ∈ ps, 124 ∉ l := fun l hl => (hps l hl).elim fun p e => e ▸ ptl_no (by decide) (by decide) (by decide) (by decide)
  rcases List.mem_append.mp hl with hp | hp
  · rcases List.mem_append.mp hp with hp | hp
    · exact h3 l (List.mem_of_mem_take hp)
    · rw [List.mem_singleton.mp hp]; exact hb.1
  · exact h3 l (List.mem_of_mem_drop hp)
theorem spl32_len : ∀ (l acc : List Nat), ((TL.spl [32] 0 acc l).map List.length).sum + l.count 32 = acc.length + l.length
  | [], acc => by rw [TL.spl_nil]; simp
  | a :: r, acc => by
    by_cases h : a = 32
    · subst h
      have ih := spl32_len r []
      rw [spl32_hit, List.map_cons, List.sum_cons, List.count_cons_self, List.length_cons]
      simp at ih
      omega
    · have ih := spl32_len r (acc ++ [a])
      rw [spl32_miss h, List.count_cons_of_ne h, List.length_cons]
      rw [List.length_append] at ih
      simp at ih
      omega
theorem split_sum (x : Str) : ((Txt.split x " ").map (·.length)).sum ≤ x.length := by
  have h1 := spl32_len (TL.tl x) []
  rw [← pcs_eq, List.map_map] at h1
  have h2 : ((Txt.split x " ").map (List.length ∘ TL.tl)) = (Txt.split x " ").map (·.length) := List.map_congr_left fun p _ => (TL.len_tl p).symm
  rw [h2, ← TL.len_tl] at h1
  simp at h1
  omega
theorem sum_drop2 (ps : List Str) : ((ps.drop 2).map (·.length)).sum ≤ (ps.map (·.length)).sum := by
  match ps with
  | [] => simp
  | [_] => simp
  | a :: b :: r => simp only [List.drop_succ_cons, List.drop_zero, List.map_cons, List.sum_cons]; omega
theorem ok_read_row (T : Txt K mg) (TW : TxW w T) : Fn P w K mg base "read_row" 6 (ct_read_row T.C_NoText) := by
  refine fn_mk T.d_read_row sc_read_row (fun ds A k e h => ?_) fun f cdv A0 outer s H E hr hp htk ds A kk ee h => ?_
  · obtain ⟨x, rfl, _⟩ := h; rfl
  obtain ⟨x, rfl, hl, hk, he⟩ := h
  refine as_if (bb := false) (AT.is (at_not (at_val (av_isi rfl T.m_isinstance (avs_c (av_var (i := 0) rfl (.inl rfl) rfl) (avs_c (av_ty rfl T.m_str bo_str) avs_nil)) (.str _) kt_str_str))) (by rfl)) (fun hb => nomatch hb) (fun _ => as_end ?_)
  obtain ⟨ps, hpe⟩ : ∃ ps, ps = Txt.split x " " := ⟨_, rfl⟩
  rw [← hpe] at hk he
  have hpm : ∀ p ∈ ps, p.length ≤ x.length := fun p h => split_part_len x (by rw [← hpe]; exact h)
  have hpn : ∀ i, (ps.getD i default).length ≤ 200000 := fun i => by
    by_cases hi : i < ps.length
    · have h1 := hpm (ps.getD i default) (by rw [List.getD_eq_getElem?_getD, List.getElem?_eq_getElem hi]; exact List.getElem_mem hi)
      omega
    · rw [List.getD_eq_getElem?_getD, List.getElem?_eq_none (by omega)]
      decide
  have hp0 : 0 < ps.length := by rw [hpe]; exact split_pos1 x
  have hps : ps.length ≤ 200001 := by
    have h1 := congrArg List.length (pcs_eq x)
    rw [List.length_map, ← hpe, spl32_num] at h1
    have h2 : (TL.tl x).count 32 ≤ (TL.tl x).length := List.count_le_length
    rw [TL.len_tl] at hl
    omega
  refine as_set (i := 1) sc_read_row.nd rfl (.inl rfl) (AV.ae (AV.is (av_split (av_var (i := 0) rfl (.inl rfl) rfl) av_str (by decide) (Nat.le_of_lt (small_sz (by omega)))) (show _ = D.fz (ps.map D.str) by rw [hpe])) ?_)
  refine as_if (AW.at (aw_and (at_eqS (av_ixN (f := D.str) default (av_var (i := 1) rfl (.inl rfl) rfl) av_int (n := 0) rfl hp0) av_str) fun _ => (aw_and1 (at_gt (av_lenD rfl T.m_len (av_var (i := 1) rfl (.inl rfl) rfl) IsL.fz) av_int)))) (fun hb => ?_) (fun hb => as_end ?_)
  · have hb : ps.getD 0 default = "curve" ∧ 2 < ps.length := by
      rw [Bool.and_eq_true, decide_eq_true_eq, decide_eq_true_eq] at hb
      exact ⟨hb.1, by have := hb.2; omega⟩
    have hsum : ((ps.drop 2).map (·.length)).sum ≤ 200000 := by
      have h1 := sum_drop2 ps
      have h2 := split_sum x
      rw [← hpe] at h2
      omega
    have hdl : (ps.drop 2).length ≤ 200001 := by rw [List.length_drop]; omega
    have hj : (Str.join " " (ps.drop 2)).length ≤ 500000 := by
      rw [TL.len_tl, TL.tl_join]
      have h1 := joinL_len (TL.tl " ") ((ps.drop 2).map TL.tl)
      rw [List.map_map, List.length_map] at h1
      have h2 : ((ps.drop 2).map (List.length ∘ TL.tl)) = (ps.drop 2).map (·.length) := List.map_congr_left fun p _ => (TL.len_tl p).symm
      rw [h2] at h1
      have h3 : (TL.tl " ").length = 1 := rfl
      rw [h3] at h1
      omega
    refine as_cons (a1_retx (AEx.frz (aex_tup (aesx_cons (AE.aex (AV.ae av_str (aesx_cons (aex_lst (aesx_cons (aex_call (ok_read_name T) htk (hr.mono (by decide)) rfl (AVs.aes (avs_c (av_ixN (f := D.str) default (av_var (i := 1) rfl (.inl rfl) rfl) av_int (n := 1) rfl (by omega)) avs_nil) ⟨_, rfl, by have := hpn 1; omega, fun hn => aesx_cons (aex_call (ok_read_curve T) htk (hr.mono (by decide)) rfl (AVs.aes (avs_c (av_join (ys := ps.drop 2) av_str (AV.is (av_slF (f := D.str) (av_var (i := 1) rfl (.inl rfl) rfl) IsL.fz (lo' := some ((2 : Nat) : Int)) (hi' := none) av_int trivial) (show _ = D.fz ((ps.drop 2).map D.str) by rw [cutL_drop])) IsL.fz (by have e1 : ((" " : Str)).length = 1 := rfl; rw [e1]; omega)) avs_nil) ⟨_, rfl, hj, fun row hrow q hq => aesx_nil ⟨Nat.le_of_ble_eq_true rfl, fun p hp9 => aesx_nil ⟨Nat.le_of_ble_eq_true rfl, ?_⟩⟩, fun no A9 e9 => he (fun d h => ?_) A9 e9⟩)), fun no => he (fun d h => ?_) _ (Ext.refl _)⟩)))))))))))
    · have hqp : q ≠ p := fun e => by rw [← e, aupd_same] at hp9; cases hp9
      have hpA : A p = none := by rw [aupd_ne (fun e => hqp e.symm)] at hp9; exact hp9
      refine ⟨A, .tup [.str "curve", .fz [.str (ps.getD 1 default), fzs pt row]], (Ext.new hq).trans (Ext.new hp9), .tup (.cons (.same _) (.cons (.lst hpA aupd_same (.cons (.same _) (.cons (.lst hq (by rw [aupd_ne hqp]; exact aupd_same) (Frs.refl _)) .nil))) .nil)), hk _ (.inl ⟨hb.1, hb.2, row, hn, hrow, rfl⟩)⟩
    · rcases h with ⟨_, _, row, _, h, _⟩ | ⟨h, _⟩
      · exact no row h
      · exact h hb
    · rcases h with ⟨_, _, row, h, _⟩ | ⟨h, _⟩
      · exact no h
      · exact h hb
  have hb : ¬ (ps.getD 0 default = "curve" ∧ 2 < ps.length) := fun h => by
    have h2 : (2 : Int) < ((ps.map D.str).length : Int) := by rw [List.length_map]; have := h.2; omega
    have h3 : (2 : Int) < (ps.length : Int) := by have := h.2; omega
    rw [Bool.and_eq_false_iff] at hb
    rcases hb with h9 | h9
    · exact of_decide_eq_false h9 h.1
    · exact of_decide_eq_false h9 (by first | exact h2 | exact h3)
  cases hsh : lkT kvs_SHAPES (ps.getD 0 default) with
  | none =>
    refine as_if (bb := true) (AT.is (AW.at (aw_or (b1 := true) (b2 := true) (AT.is (at_notInKd TW.kd_SHAPES (av_ixN (f := D.str) default (av_var (i := 1) rfl (.inl rfl) rfl) av_int (n := 0) rfl hp0) (av_glob rfl T.g_SHAPES (v := .ref T.c_SHAPES) rfl (fun _ => .ref _))) (by rw [hsh]; rfl)) fun h => nomatch h)) (by rfl)) (fun _ => ?_) (fun h => nomatch h)
    exact as_cons (a1_raiseF T.e_NoText rfl htk rfl (he (fun d h => by
      rcases h with ⟨h1, h2, _⟩ | ⟨_, sh, h, _⟩
      · exact hb ⟨h1, h2⟩
      · rw [hsh] at h; cases h) _ (Ext.refl _)))
  | some sh =>
    have hs10 := shapes_small hsh
    refine as_if (AW.at (aw_or (AT.is (at_notInKd TW.kd_SHAPES (av_ixN (f := D.str) default (av_var (i := 1) rfl (.inl rfl) rfl) av_int (n := 0) rfl hp0) (av_glob rfl T.g_SHAPES (v := .ref T.c_SHAPES) rfl (fun _ => .ref _))) (show _ = false by rw [hsh]; rfl)) fun _ => (aw_or1 (at_ne (av_lenS rfl T.m_len (av_ixKd TW.kd_SHAPES (av_glob rfl T.g_SHAPES (v := .ref T.c_SHAPES) rfl (fun _ => .ref _)) (av_ixN (f := D.str) default (av_var (i := 1) rfl (.inl rfl) rfl) av_int (n := 0) rfl hp0) hsh) (Nat.le_of_lt (small_sz2 (show sh.cps.size < 2000000 by omega)))) (av_sub (av_lenD rfl T.m_len (av_var (i := 1) rfl (.inl rfl) rfl) IsL.fz) av_int))))) (fun h8 => ?_) (fun h8 => as_end ?_)
    · have h8 : ¬ sh.cps.size + 1 = ps.length := fun e => by
        have h9 : ((sh.length : Nat) : Int) = ((ps.map D.str).length : Int) - 1 := by
          rw [List.length_map]
          show ((sh.cps.size : Nat) : Int) = _
          omega
        have h10 : ((sh.length : Nat) : Int) = ((ps.length : Nat) : Int) - 1 := by rw [List.length_map] at h9; exact h9
        first
          | (rw [decide_eq_true h9] at h8; simp at h8)
          | (rw [decide_eq_true h10] at h8; simp at h8)
      exact as_cons (a1_raiseF T.e_NoText rfl htk rfl (he (fun d h => by
        rcases h with ⟨h1, h2, _⟩ | ⟨_, sh2, h, h3, _⟩
        · exact hb ⟨h1, h2⟩
        · rw [hsh] at h; cases h; exact h8 h3) _ (Ext.refl _)))
    · have h8 : sh.cps.size + 1 = ps.length := Classical.byContradiction fun hne => by
        have h9 : ¬ ((sh.length : Nat) : Int) = ((ps.map D.str).length : Int) - 1 := by
          rw [List.length_map]
          show ¬ ((sh.cps.size : Nat) : Int) = _
          omega
        have h10 : ¬ ((sh.length : Nat) : Int) = ((ps.length : Nat) : Int) - 1 := by rw [List.length_map] at h9; exact h9
        first
          | (rw [decide_eq_false h9] at h8; simp at h8)
          | (rw [decide_eq_false h10] at h8; simp at h8)
      have hmin : min (ps.drop 1).length sh.cps.size = sh.cps.size := by rw [List.length_drop]; omega
      have hdr : ∀ i, (ps.drop 1).getD i default = ps.getD (i + 1) default := fun i => by
        rw [List.getD_eq_getElem?_getD, List.getElem?_drop, List.getD_eq_getElem?_getD, Nat.add_comm]
      refine as_cons (a1_retx (AEx.frz (aex_tup (aesx_cons (AE.aex (AV.ae (av_ixN (f := D.str) default (av_var (i := 1) rfl (.inl rfl) rfl) av_int (n := 0) rfl hp0) (aesx_cons (aex_lcV rfl rfl rfl sc_read_row.nd htk (blkOk_by rfl) (own := [("word", 2), ("shape", 3)]) (is := [2, 3]) (n := min (ps.drop 1).length sh.cps.size) (g := fun i => wdOf (sh.cps.getD i 0) (ps.getD (i + 1) default)) (good := fun i => ∃ v, WordV (sh.cps.getD i 0) (ps.getD (i + 1) default) v) (by decide) (ai_zipS (f := D.str) (default : Str) rfl T.m_zip (avs_c (AV.is (av_slF (f := D.str) (av_var (i := 1) rfl (.inl rfl) rfl) IsL.fz (lo' := some ((1 : Nat) : Int)) (hi' := none) av_int trivial) (show _ = D.fz ((ps.drop 1).map D.str) by rw [cutL_drop])) (avs_c (av_ixKd TW.kd_SHAPES (av_glob rfl T.g_SHAPES (v := .ref T.c_SHAPES) rfl (fun _ => .ref _)) (av_ixN (f := D.str) default (av_var (i := 1) rfl (.inl rfl) rfl) av_int (n := 0) rfl hp0) hsh) avs_nil)) ⟨rfl, Ext.refl _, (Nat.le_of_lt (small1000 (by omega))), (fun _ x => trivial), fun i hi => ⟨_, fun s H C cl fp xe => ⟨(ag_tup rfl (ags_cons (ag_name (i := 2) sc_read_row.nd rfl (.inl rfl)) (ags_cons (ag_name (i := 3) sc_read_row.nd rfl (.inl rfl)) ags_nil))), fun A' x9 k9 hk9 => aey_call (ok_read_word T) (hr.mono (by decide)) rfl (AVs.aes (avs_c (av_var (i := 2) rfl (.inl rfl) rfl) (avs_c (av_var (i := 3) rfl (.inl rfl) rfl) avs_nil)) ⟨_, _, rfl, by rw [hdr]; have := hpn (i + 1); omega, fun d h => ?_, fun no => ?_⟩)⟩⟩⟩) fun hg p hp9 => aesx_nil ⟨Nat.le_of_ble_eq_true rfl, ?_⟩))))))))
      · rw [hdr] at h
        rw [WordV_one h (wdOf_ok ⟨d, h⟩)]
        exact hk9 ⟨d, h⟩
      · refine he (fun d h => ?_) _ x9
        rcases h with ⟨h1, h2, _⟩ | ⟨_, sh2, h, h3, h4, _⟩
        · exact hb ⟨h1, h2⟩
        · rw [hsh] at h
          cases h
          obtain ⟨v, h5⟩ := h4 i (by omega)
          rw [hdr] at no
          exact no v h5
      · refine ⟨A, .tup [.str (ps.getD 0 default), .fz ((List.range sh.cps.size).map fun i => wdOf (sh.cps.getD i 0) (ps.getD (i + 1) default))], Ext.new hp9, .tup (.cons (.same _) (.cons (.lst hp9 aupd_same (by rw [hmin]; exact Frs.refl _)) .nil)), hk _ (.inr ⟨hb, sh, hsh, h8, fun i hi => hg i (by omega), rfl⟩)⟩
theorem IsDesk.put {C : Addr} {A : AH} {p b : Addr} {bk : List (Str × List Pt)} (h : IsDesk C A p b bk) (bk' : List (Str × List Pt)) : IsDesk C (aupd A b (dkS (bookA bk'))) p b bk' :=
  ⟨let ⟨y, e⟩ := h.at_; ⟨y, by rw [aupd_ne h.ne]; exact e⟩, aupd_same⟩
/-- a curve kept under a name -/
def putB (bk : List (Str × List Pt)) (n : Str) (row : List Pt) : List (Str × List Pt) := if (bk.any fun q => decide (q.1 = n)) = true then bk.map (fun q => if q.1 = n then (q.1, row) else q) else bk ++ [(n, row)]
theorem putB_A (bk : List (Str × List Pt)) (n : Str) (row : List Pt) : putS (bookA bk) n (fzs pt row) = bookA (putB bk n row) := by
  unfold putS putB bookA
  have e : ((bk.map fun q => (q.1, fzs pt q.2)).any fun q => decide (q.1 = n)) = bk.any fun q => decide (q.1 = n) := by rw [List.any_map]; rfl
  rw [e]
  split
  · rw [List.map_map, List.map_map]
    refine List.map_congr_left fun q _ => ?_
    by_cases h : q.1 = n <;> simp [h]
  · rw [List.map_append]; rfl
theorem RowV_one {ps : List Str} {d d' : D} (h : RowV ps d) (g : RowV ps d') : d = d' := by
  rcases h with ⟨a1, a2, r, _, a3, rfl⟩ | ⟨a1, s, a2, _, _, rfl⟩
  · rcases g with ⟨_, _, r', _, b3, rfl⟩ | ⟨b1, _⟩
    · rw [rdC_one a3 b3]
    · exact absurd ⟨a1, a2⟩ b1
  · rcases g with ⟨b1, b2, _⟩ | ⟨_, s', b2, _, _, rfl⟩
    · exact absurd ⟨b1, b2⟩ a1
    · rw [a2] at b2
      cases b2
      rfl
def lkB (bk : List (Str × List Pt)) (n : Str) : Option (List Pt) := (bk.find? fun q => decide (q.1 = n)).map (·.2)
theorem lkB_A (bk : List (Str × List Pt)) (n : Str) : lkS (bookA bk) n = (lkB bk n).map fun row => fzs pt row := by
  unfold lkS lkB bookA
  rw [List.find?_map, Option.map_map, Option.map_map]
  rfl
/-- the names that a row asks are there -/
def Knw (bk : List (Str × List Pt)) (sh : Str) (ps : List D) : Prop := ∀ i, i < ps.length → sh.cps.getD i 0 = 110 → ∃ m row, ps.getD i .non = .str m ∧ lkB bk m = some row
def w4 : List Str := ["same", "part", "meet", "join"]
def wA : List Str := ["tell", "point", "hull", "box"]
def SayK (M : Addr) (cC cA cH : Ct) (A : AH) (p b : Addr) (bk : List (Str × List Pt)) (w : Str) (ps : List D) (k : AK) (e : Value → AH → Prop) : Prop :=
  (w = "curve" → ∀ n row, ps = [.str n, fzs pt row] → k (.str "ok") (aupd A b (dkS (bookA (putB bk n row))))) ∧
  (w = "names" → k (.str (if bk.isEmpty then "none" else Str.join " " (srtN (bk.map (·.1))))) A) ∧
  (w ≠ "curve" → w ≠ "names" → ∀ sh, lkT kvs_SHAPES w = some sh → (¬ Knw bk sh ps → e (.ref M) A) ∧
    (Knw bk sh ps → ∀ n row, ps.getD 0 .non = .str n → lkB bk n = some row →
      (w ∈ w4 → ∀ n2 row2, ps.getD 1 .non = .str n2 → lkB bk n2 = some row2 → cC [.ref p, .str w, fzs pt row, fzs pt row2, ps.getD (ps.length - 1) .non] A k e) ∧
      (w ∈ wA → cA [.ref p, .str w, fzs pt row, .fz ps] A k e) ∧ (w ∉ w4 → w ∉ wA → cH [.ref p, .str w, fzs pt row, .fz ps] A k e)))
def ct_say (C N M : Addr) (cC cA cH : Ct) : Ct := fun ds A k e => ∃ (p b : Addr) (bk : List (Str × List Pt)) (x : Str), ds = [.ref p, .str x] ∧ x.length ≤ 200000 ∧ IsDesk C A p b bk ∧ bk.length < 64 ∧ (∀ q ∈ bk, q.1.length ≤ 1000) ∧
  ((∀ d, ¬ RowV (Txt.split x " ") d) → ∀ A', Ext A A' → e (.ref N) A') ∧ ∀ w ps, RowV (Txt.split x " ") (.tup [.str w, .fz ps]) → SayK M cC cA cH A p b bk w ps k e
theorem RowV_form {qs : List Str} {d : D} (h : RowV qs d) : ∃ w ps, d = .tup [.str w, .fz ps] ∧ ((w = "curve" ∧ ∃ n row, ps = [.str n, fzs pt row]) ∨ (w ≠ "curve" ∧ ∃ sh, lkT kvs_SHAPES w = some sh ∧ ps.length = sh.cps.size ∧ ∀ i, i < ps.length → sh.cps.getD i 0 = 110 → ∃ m, ps.getD i .non = .str m ∧ NameL (TL.tl m))) := by
  rcases h with ⟨_, _, row, _, _, rfl⟩ | ⟨_, sh, h2, h3, h4, rfl⟩
  · exact ⟨_, _, rfl, .inl ⟨rfl, _, _, rfl⟩⟩
  · refine ⟨_, _, rfl, .inr ⟨fun e => ?_, sh, h2, by rw [List.length_map, List.length_range], fun i hi h9 => ?_⟩⟩
    · rw [e] at h2
      cases h2
    · rw [List.length_map, List.length_range] at hi
      have hw := wdOf_ok (h4 i hi)
      unfold WordV at hw
      rw [if_neg (by rw [h9]; decide), if_neg (by rw [h9]; decide)] at hw
      refine ⟨_, ?_, hw.1⟩
      rw [List.getD_eq_getElem?_getD, List.getElem?_map, List.getElem?_range hi, Option.map_some, Option.getD_some]
      exact hw.2
theorem shapes_first {w sh : Str} (h : lkT kvs_SHAPES w = some sh) (hn : w ≠ "names") : 0 < sh.cps.size ∧ sh.cps.getD 0 0 = 110 := by
  have hall : ∀ q ∈ kvs_SHAPES, q.1 ≠ "names" → 0 < q.2.cps.size ∧ q.2.cps.getD 0 0 = 110 := by decide
  unfold lkT at h
  obtain ⟨q, hq, rfl⟩ := Option.map_eq_some_iff.mp h
  have h1 := List.find?_some hq
  exact hall q (List.mem_of_find?_eq_some hq) (by rw [of_decide_eq_true h1]; exact hn)
theorem shapes_second {w sh : Str} (h : lkT kvs_SHAPES w = some sh) (hn : w ∈ w4) : 2 ≤ sh.cps.size ∧ sh.cps.getD 1 0 = 110 := by
  have hall : ∀ q ∈ kvs_SHAPES, q.1 ∈ w4 → 2 ≤ q.2.cps.size ∧ q.2.cps.getD 1 0 = 110 := by decide
  unfold lkT at h
  obtain ⟨q, hq, rfl⟩ := Option.map_eq_some_iff.mp h
  have h1 := List.find?_some hq
  exact hall q (List.mem_of_find?_eq_some hq) (by rw [of_decide_eq_true h1]; exact hn)
theorem fz_id (ps : List D) : D.fz ps = D.fz (ps.map id) := by rw [List.map_id]
theorem ok_say (T : Txt K mg) (TW : TxW w T) {lv : Nat} {cC cA cH : Ct} (hlv : 10 ≤ lv) (FC : Mt P w K mg base T.C_Desk "compared" lv cC) (FA : Mt P w K mg base T.C_Desk "asked" lv cA) (FH : Mt P w K mg base T.C_Desk "changed" lv cH) :
    Mt P w K mg base T.C_Desk "say" (lv + 1) (ct_say T.C_Desk T.C_NoText T.C_NoName cC cA cH) := by
  refine mt_mk T.d_Desk_say sc_Desk_say (fun ds A k e h => ?_) fun f cdv A0 outer s H E hr hp htk ds A kk ee h => ?_
  · obtain ⟨p, b, bk, x, rfl, _⟩ := h; rfl
  obtain ⟨p, b, bk, x, rfl, hl, hD, hbl, hbn, hno, hyes⟩ := h
  obtain ⟨y, h1⟩ := hD.at_
  refine as_cons (a1_asgx (is := [2, 3]) (aex_call (ok_read_row T TW) htk (hr.mono (by omega)) rfl (AVs.aes (avs_c  (av_var (i := 1) rfl (.inl rfl) rfl) avs_nil) ⟨x, rfl, hl, fun d hd => ?_, fun no A' e' => hno no A' e'⟩)))
  obtain ⟨w, ps, rfl, hf⟩ := RowV_form hd
  obtain ⟨hc, hn, ho⟩ := hyes w ps hd
  refine ⟨_, (ag_tup rfl (ags_cons (ag_name (i := 2) sc_Desk_say.nd rfl (.inl rfl)) (ags_cons (ag_name (i := 3) sc_Desk_say.nd rfl (.inl rfl)) ags_nil))), ?_⟩
  refine AS.ro (ρ' := [some (.ref p), some (.str x), some (.str w), some (.fz ps), none, none]) ?_
  refine as_if (at_eqS  (av_var (i := 2) rfl (.inl rfl) rfl) av_str) (fun hb => ?_) (fun hb => as_end ?_)
  · have hb : w = "curve" := of_decide_eq_true hb
    subst hb
    rcases hf with ⟨_, n, row, rfl⟩ | ⟨h9, _⟩
    · refine as_ret (ae_mt (ok_Desk_put T) T.l_Desk.c (hr.mono (by omega))  (av_var (i := 0) rfl (.inl rfl) rfl) h1 rfl (AVs.aes (avs_c (AV.is (av_ixN (f := id) D.non (AV.is  (av_var (i := 3) rfl (.inl rfl) rfl) (show _ = D.fz ([D.str n, fzs pt row].map id) from rfl)) av_int (n := 0) rfl (by simp)) (show _ = D.str n from rfl)) (avs_c (AV.is (av_ixN (f := id) D.non (AV.is  (av_var (i := 3) rfl (.inl rfl) rfl) (show _ = D.fz ([D.str n, fzs pt row].map id) from rfl)) av_int (n := 1) rfl (by simp)) (show _ = fzs pt row from rfl)) avs_nil)) ⟨p, b, bk, n, row, rfl, hD, by omega, ?_⟩))
      rw [putB_A]
      exact hc rfl n row rfl
    · exact absurd rfl h9
  have hb : w ≠ "curve" := of_decide_eq_false hb
  rcases hf with ⟨h9, _⟩ | ⟨_, sh, hsh, hpl, hnm⟩
  · exact absurd h9 hb
  have hmp : (bookA bk).map (·.1) = bk.map (·.1) := by unfold bookA; rw [List.map_map]; rfl
  refine as_if (at_eqS  (av_var (i := 2) rfl (.inl rfl) rfl) av_str) (fun hb2 => ?_) (fun hb2 => as_end ?_)
  · have hb2 : w = "names" := of_decide_eq_true hb2
    have hie : (bookA bk).isEmpty = bk.isEmpty := by unfold bookA; cases bk <;> rfl
    refine as_ret (AE.weak (ae_ifx (aet_neD hr (av_fld T.l_Desk.c T.n_Desk_book (av_var (i := 0) rfl (.inl rfl) rfl) h1 rfl) hD.bk fun A' x9 => ⟨fun hbk => ?_, fun hbk => ?_⟩)))
    · have hbk : bk.isEmpty = false := by
        rw [hie] at hbk
        simpa using hbk
      have h1' := x9 _ _ h1
      have hj := sum_len (xs := srtN (bk.map (·.1))) (b := 1000) fun x hx => by
        obtain ⟨q, hq, rfl⟩ := List.mem_map.mp (srtN_mem hx)
        exact hbn q hq
      have hj2 := srtN_le (bk.map (·.1))
      rw [List.length_map] at hj2
      have e1 : ((" " : Str)).length = 1 := rfl
      refine AV.ae (av_join (ys := srtN (bk.map (·.1))) av_str (AV.is (av_sortedN rfl rfl T.m_sorted (av_fld T.l_Desk.c T.n_Desk_book  (av_var (i := 0) rfl (.inl rfl) rfl) h1' rfl) (x9 _ _ hD.bk) (by unfold bookA; rw [List.length_map]; exact hbl)) (by rw [hmp])) IsL.fz (by rw [e1]; omega)) ⟨A, x9, ?_⟩
      have := hn hb2
      rw [hbk] at this
      exact this
    · have hbk : bk.isEmpty = true := by
        rw [hie] at hbk
        simpa using hbk
      refine AV.ae av_str ⟨A, x9, ?_⟩
      have := hn hb2
      rw [hbk] at this
      exact this
  have hb2 : w ≠ "names" := of_decide_eq_false hb2
  obtain ⟨hu, hk⟩ := ho hb hb2 sh hsh
  obtain ⟨hs0, hs1⟩ := shapes_first hsh hb2
  have hs10 := shapes_small hsh
  refine as_cons (a1_for hp rfl (ai_rng rfl T.m_range (av_lenD rfl T.m_len (AV.is (av_var (i := 3) rfl (.inl rfl) rfl) (fz_id ps)) IsL.fz) (by omega) (by omega) ⟨fun i ρ A' => ∃ (y : Option D), ρ = [some (.ref p), some (.str x), some (.str w), some (.fz ps), y, none] ∧ A = A' ∧ (∀ j, j < i → sh.cps.getD j 0 = 110 → ∃ m row, ps.getD j .non = .str m ∧ lkB bk m = some row), ⟨_, rfl, rfl, fun j hj => absurd hj (Nat.not_lt_zero _)⟩, fun i ρ A' hle hI => trivial, fun i ρ A' hi hI => ⟨_, _, (ag_name (i := 4) sc_Desk_say.nd rfl (.inl rfl)), ?_⟩, fun ρ A' hI => ?_⟩))
  · skip
    obtain ⟨y, rfl, rfl, hd9⟩ := hI
    have hi9 : i < ps.length := by omega
    have hix : sh.cps[((i : Int)).toNat]? = some (sh.cps.getD i 0) := by
      rw [Int.toNat_natCast, Array.getD_eq_getD_getElem?, Array.getElem?_eq_getElem (by omega)]
      rfl
    refine AS.ro (ρ' := [some (.ref p), some (.str x), some (.str w), some (.fz ps), some (.int (i : Int)), none]) ?_
    by_cases h110 : sh.cps.getD i 0 = 110
    · obtain ⟨m, hm, hmN⟩ := hnm i hi9 h110
      refine as_if (AW.at (aw_and (AT.is (at_eqS (av_ixS (av_ixKd TW.kd_SHAPES (av_glob rfl T.g_SHAPES (v := .ref T.c_SHAPES) rfl (fun _ => .ref _)) (av_var (i := 2) rfl (.inl rfl) rfl) hsh) (av_var (i := 4) rfl (.inl rfl) rfl) (by omega) (by omega) hix) av_str) (show _ = true by rw [h110]; rfl)) fun _ => aw_and1 (at_notInS hr (AV.is (av_ixDN (f := id) D.non (AV.is (av_var (i := 3) rfl (.inl rfl) rfl) (fz_id ps)) IsL.fz  (av_var (i := 4) rfl (.inl rfl) rfl) (n := i) rfl hi9) (show _ = D.str m from hm))  (av_fld T.l_Desk.c T.n_Desk_book (av_var (i := 0) rfl (.inl rfl) rfl) h1 rfl) hD.bk))) (fun hb9 => ?_) (fun hb9 => as_end ?_)
      · rw [lkB_A] at hb9
        refine as_cons (a1_raiseF T.e_NoName rfl htk rfl (hu fun K => ?_))
        obtain ⟨m', row, e1, e2⟩ := K i hi9 h110
        rw [hm] at e1
        cases e1
        rw [e2] at hb9
        simp at hb9
      · rw [lkB_A] at hb9
        refine as_nil ⟨_, rfl, rfl, fun j hj h9 => ?_⟩
        rcases Nat.lt_succ_iff_lt_or_eq.mp hj with hj | rfl
        · exact hd9 j hj h9
        · cases hlk : lkB bk m with
          | none => rw [hlk] at hb9; simp at hb9
          | some row => exact ⟨m, row, hm, hlk⟩
    · refine as_if (bb := false) (AW.at (aw_and (b1 := false) (b2 := true) (AT.is (at_eqS (av_ixS (av_ixKd TW.kd_SHAPES (av_glob rfl T.g_SHAPES (v := .ref T.c_SHAPES) rfl (fun _ => .ref _)) (av_var (i := 2) rfl (.inl rfl) rfl) hsh) (av_var (i := 4) rfl (.inl rfl) rfl) (by omega) (by omega) hix) av_str) (decide_eq_false fun e => h110 (sign_eq.mp e))) fun h => nomatch h)) (fun h => nomatch h) (fun _ => as_end ?_)
      refine as_nil ⟨_, rfl, rfl, fun j hj h9 => ?_⟩
      rcases Nat.lt_succ_iff_lt_or_eq.mp hj with hj | rfl
      · exact hd9 j hj h9
      · exact absurd h9 h110
  obtain ⟨y9, rfl, rfl, hd9⟩ := hI
  have hKn : Knw bk sh ps := fun i hi h9 => hd9 i (by rw [Int.toNat_natCast]; exact hi) h9
  obtain ⟨n, row, hn0, hlk⟩ := hKn 0 (by omega) hs1
  obtain ⟨k4, kA, kH⟩ := hk hKn n row hn0 hlk
  refine as_set (i := 5) sc_Desk_say.nd rfl (.inl rfl) (AV.ae (av_ixS' hr  (av_fld T.l_Desk.c T.n_Desk_book (av_var (i := 0) rfl (.inl rfl) rfl) h1 rfl) (AV.is (av_ixN (f := id) D.non (AV.is (av_var (i := 3) rfl (.inl rfl) rfl) (fz_id ps)) av_int (n := 0) rfl (by omega)) (show _ = D.str n from hn0)) hD.bk (d := fzs pt row) (by rw [lkB_A, hlk]; rfl)) ?_)
  refine AS.ro (ρ' := [some (.ref p), some (.str x), some (.str w), some (.fz ps), y9, some (fzs pt row)]) ?_
  refine as_if (at_inTs  (av_var (i := 2) rfl (.inl rfl) rfl) (AV.is (av_tup (avs_c av_str (avs_c av_str (avs_c av_str (avs_c av_str avs_nil))))) (show _ = D.tup (w4.map D.str) from rfl))) (fun hb4 => ?_) (fun hb4 => as_end ?_)
  · have hb4 : w ∈ w4 := of_decide_eq_true hb4
    obtain ⟨hs2, hs3⟩ := shapes_second hsh hb4
    obtain ⟨n2, row2, hn2, hlk2⟩ := hKn 1 (by omega) hs3
    exact as_cons (a1_retx (aex_mt FC htk T.l_Desk.c hr  (av_var (i := 0) rfl (.inl rfl) rfl) h1 rfl (AVs.aes (avs_c  (av_var (i := 2) rfl (.inl rfl) rfl) (avs_c  (av_var (i := 5) rfl (.inl rfl) rfl) (avs_c (av_ixS' hr  (av_fld T.l_Desk.c T.n_Desk_book (av_var (i := 0) rfl (.inl rfl) rfl) h1 rfl) (AV.is (av_ixN (f := id) D.non (AV.is (av_var (i := 3) rfl (.inl rfl) rfl) (fz_id ps)) av_int (n := 1) rfl (by omega)) (show _ = D.str n2 from hn2)) hD.bk (d := fzs pt row2) (by rw [lkB_A, hlk2]; rfl)) (avs_c (av_ixB (f := id) D.non (AV.is (av_var (i := 3) rfl (.inl rfl) rfl) (fz_id ps)) (av_neg av_int) (n := 1) rfl (by decide) (by omega)) avs_nil)))) (k4 hb4 n2 row2 hn2 hlk2))))
  have hb4 : w ∉ w4 := of_decide_eq_false hb4
  refine as_if (at_inTs  (av_var (i := 2) rfl (.inl rfl) rfl) (AV.is (av_tup (avs_c av_str (avs_c av_str (avs_c av_str (avs_c av_str avs_nil))))) (show _ = D.tup (wA.map D.str) from rfl))) (fun hb5 => ?_) (fun hb5 => as_end ?_)
  · have hb5 : w ∈ wA := of_decide_eq_true hb5
    exact as_cons (a1_retx (aex_mt FA htk T.l_Desk.c hr  (av_var (i := 0) rfl (.inl rfl) rfl) h1 rfl (AVs.aes (avs_c  (av_var (i := 2) rfl (.inl rfl) rfl) (avs_c  (av_var (i := 5) rfl (.inl rfl) rfl) (avs_c  (av_var (i := 3) rfl (.inl rfl) rfl) avs_nil))) (kA hb5))))
  have hb5 : w ∉ wA := of_decide_eq_false hb5
  exact as_cons (a1_retx (aex_mt FH htk T.l_Desk.c hr  (av_var (i := 0) rfl (.inl rfl) rfl) h1 rfl (AVs.aes (avs_c  (av_var (i := 2) rfl (.inl rfl) rfl) (avs_c  (av_var (i := 5) rfl (.inl rfl) rfl) (avs_c  (av_var (i := 3) rfl (.inl rfl) rfl) avs_nil))) (kH hb4 hb5))))
def ct_plus : Ct := fun ds A k _ => ∃ (p q : Rat) (m n : Nat), ds = [sh p, sh q] ∧ Sz m p ∧ Sz n q ∧ m + n ≤ 9000 ∧ k (sh (p + q)) A
theorem ok_plus (T : Txt K mg) : Fn P w K mg base "plus" 3 ct_plus := by
  refine fn_mk T.d_plus sc_plus (fun ds A k e h => ?_) fun f cdv A0 outer s H E hr hp htk ds A kk ee h => ?_
  · obtain ⟨p, q, m, n, rfl, _⟩ := h; rfl
  obtain ⟨p, q, m, n, rfl, hp', hq', hmn, hk⟩ := h
  refine as_retv (av_call (d := sh (p + q)) (ok_share T) (hr.mono (by decide)) rfl (avs_cons (av_add (av_mul (av_ixT (av_var (i := 0) rfl (.inl rfl) rfl) av_int rfl) (av_ixT (av_var (i := 1) rfl (.inl rfl) rfl) av_int rfl) (mulx hp'.num hq'.den (by omega))) (av_mul (av_ixT (av_var (i := 1) rfl (.inl rfl) rfl) av_int rfl) (av_ixT (av_var (i := 0) rfl (.inl rfl) rfl) av_int rfl) (mulx hq'.num hp'.den (by omega)))) (avs_cons (av_mul (av_ixT (av_var (i := 0) rfl (.inl rfl) rfl) av_int rfl) (av_ixT (av_var (i := 1) rfl (.inl rfl) rfl) av_int rfl) (mulx hp'.den hq'.den (by omega))) avs_nil))
    ⟨_, _, rfl, fun z => absurd z (den2 p q), fun _ => ⟨bt_le (bt_mul hp'.den hq'.den) hmn, by rw [add_eq], Ext.refl _⟩⟩) hk
def ct_minus : Ct := fun ds A k _ => ∃ (p q : Rat) (m n : Nat), ds = [sh p, sh q] ∧ Sz m p ∧ Sz n q ∧ m + n ≤ 9000 ∧ k (sh (p - q)) A
theorem ok_minus (T : Txt K mg) : Fn P w K mg base "minus" 3 ct_minus := by
  refine fn_mk T.d_minus sc_minus (fun ds A k e h => ?_) fun f cdv A0 outer s H E hr hp htk ds A kk ee h => ?_
  · obtain ⟨p, q, m, n, rfl, _⟩ := h; rfl
  obtain ⟨p, q, m, n, rfl, hp', hq', hmn, hk⟩ := h
  refine as_retv (av_call (d := sh (p - q)) (ok_share T) (hr.mono (by decide)) rfl (avs_cons (av_sub (av_mul (av_ixT (av_var (i := 0) rfl (.inl rfl) rfl) av_int rfl) (av_ixT (av_var (i := 1) rfl (.inl rfl) rfl) av_int rfl) (mulx hp'.num hq'.den (by omega))) (av_mul (av_ixT (av_var (i := 1) rfl (.inl rfl) rfl) av_int rfl) (av_ixT (av_var (i := 0) rfl (.inl rfl) rfl) av_int rfl) (mulx hq'.num hp'.den (by omega)))) (avs_cons (av_mul (av_ixT (av_var (i := 0) rfl (.inl rfl) rfl) av_int rfl) (av_ixT (av_var (i := 1) rfl (.inl rfl) rfl) av_int rfl) (mulx hp'.den hq'.den (by omega))) avs_nil))
    ⟨_, _, rfl, fun z => absurd z (den2 p q), fun _ => ⟨bt_le (bt_mul hp'.den hq'.den) hmn, by rw [sub_eq], Ext.refl _⟩⟩) hk
def ct_times : Ct := fun ds A k _ => ∃ (p q : Rat) (m n : Nat), ds = [sh p, sh q] ∧ Sz m p ∧ Sz n q ∧ m + n ≤ 9000 ∧ k (sh (p * q)) A
theorem ok_times (T : Txt K mg) : Fn P w K mg base "times" 3 ct_times := by
  refine fn_mk T.d_times sc_times (fun ds A k e h => ?_) fun f cdv A0 outer s H E hr hp htk ds A kk ee h => ?_
  · obtain ⟨p, q, m, n, rfl, _⟩ := h; rfl
  obtain ⟨p, q, m, n, rfl, hp', hq', hmn, hk⟩ := h
  refine as_retv (av_call (d := sh (p * q)) (ok_share T) (hr.mono (by decide)) rfl (avs_cons (av_mul (av_ixT (av_var (i := 0) rfl (.inl rfl) rfl) av_int rfl) (av_ixT (av_var (i := 1) rfl (.inl rfl) rfl) av_int rfl) (mulx hp'.num hq'.num (by omega))) (avs_cons (av_mul (av_ixT (av_var (i := 0) rfl (.inl rfl) rfl) av_int rfl) (av_ixT (av_var (i := 1) rfl (.inl rfl) rfl) av_int rfl) (mulx hp'.den hq'.den (by omega))) avs_nil))
    ⟨_, _, rfl, fun z => absurd z (den2 p q), fun _ => ⟨bt_le (bt_mul hp'.den hq'.den) hmn, by rw [mul_eq], Ext.refl _⟩⟩) hk
def ct_between : Ct := fun ds A k _ => ∃ (p q t : Rat) (m n : Nat), ds = [sh p, sh q, sh t] ∧ Sz m p ∧ Sz m q ∧ Sz n t ∧ 3 * m + n + 1 ≤ 9000 ∧ k (sh (p + t * (q - p))) A
theorem ok_between (T : Txt K mg) : Fn P w K mg base "between" 4 ct_between := by
  refine fn_mk T.d_between sc_between (fun ds A k e h => ?_) fun f cdv A0 outer s H E hr hp htk ds A kk ee h => ?_
  · obtain ⟨p, q, t, m, n, rfl, _⟩ := h; rfl
  obtain ⟨p, q, t, m, n, rfl, hp', hq', ht', hmn, hk⟩ := h
  refine as_retv (av_call (d := sh (p + t * (q - p))) (ok_plus T) (hr.mono (by decide)) rfl (avs_cons (av_var (i := 0) rfl (.inl rfl) rfl) (avs_cons (av_call (d := sh (t * (q - p))) (ok_times T) (hr.mono (by decide)) rfl (avs_cons (av_var (i := 2) rfl (.inl rfl) rfl) (avs_cons (av_call (d := sh (q - p)) (ok_minus T) (hr.mono (by decide)) rfl (avs_cons (av_var (i := 1) rfl (.inl rfl) rfl) (avs_cons (av_var (i := 0) rfl (.inl rfl) rfl) avs_nil)) ⟨_, _, _, _, rfl, hq', hp', by omega, rfl, Ext.refl _⟩) avs_nil)) ⟨_, _, _, _, rfl, ht', sz_sub hq' hp', by omega, rfl, Ext.refl _⟩) avs_nil)) ⟨_, _, _, _, rfl, hp', sz_mul ht' (sz_sub hq' hp'), by omega, rfl, Ext.refl _⟩) hk
def ct_on_way : Ct := fun ds A k _ => ∃ (p q : Pt) (t : Rat) (m n : Nat), ds = [pt p, pt q, sh t] ∧ SzP m p ∧ SzP m q ∧ Sz n t ∧ 3 * m + n + 1 ≤ 9000 ∧ k (pt (onWay p q t)) A
theorem ok_on_way (T : Txt K mg) : Fn P w K mg base "on_way" 5 ct_on_way := by
  refine fn_mk T.d_on_way sc_on_way (fun ds A k e h => ?_) fun f cdv A0 outer s H E hr hp htk ds A kk ee h => ?_
  · obtain ⟨p, q, t, m, n, rfl, _⟩ := h; rfl
  obtain ⟨p, q, t, m, n, rfl, hp', hq', ht', hmn, hk⟩ := h
  exact as_retv (av_tup (avs_cons (av_call (d := sh (onWay p q t).1) (ok_between T) (hr.mono (by decide)) rfl (avs_cons (av_ixT (av_var (i := 0) rfl (.inl rfl) rfl) av_int rfl) (avs_cons (av_ixT (av_var (i := 1) rfl (.inl rfl) rfl) av_int rfl) (avs_cons (av_var (i := 2) rfl (.inl rfl) rfl) avs_nil))) ⟨_, _, _, _, _, rfl, hp'.1, hq'.1, ht', hmn, rfl, Ext.refl _⟩) (avs_cons (av_call (d := sh (onWay p q t).2) (ok_between T) (hr.mono (by decide)) rfl (avs_cons (av_ixT (av_var (i := 0) rfl (.inl rfl) rfl) av_int rfl) (avs_cons (av_ixT (av_var (i := 1) rfl (.inl rfl) rfl) av_int rfl) (avs_cons (av_var (i := 2) rfl (.inl rfl) rfl) avs_nil))) ⟨_, _, _, _, _, rfl, hp'.2, hq'.2, ht', hmn, rfl, Ext.refl _⟩) avs_nil))) hk
def ct_next_row : Ct := fun ds A k _ => ∃ (d_row : D) (row : List Pt) (t : Rat) (m n : Nat), ds = [d_row, sh t] ∧ (IsL A d_row (row.map pt)) ∧ (∀ p ∈ row, SzP m p) ∧ (Sz n t) ∧ (3 * m + n + 1 ≤ 9000) ∧ (row.length ≤ 64) ∧ k (.fz ((nextR t row).map pt)) A
theorem ok_next_row (T : Txt K mg) : Fn P w K mg base "next_row" 6 ct_next_row := by
  refine fn_mk T.d_next_row sc_next_row (fun ds A k e h => ?_) fun f cdv A0 outer s H E hr hp htk ds A kk ee h => ?_
  · obtain ⟨d_row, row, t, m, n, rfl, _⟩ := h; rfl
  obtain ⟨d_row, row, t, m, n, rfl, hL_row, hz, ht, hmn, hl64, hk⟩ := h
  refine as_retv (av_lcF rfl sc_next_row.nd (blkOk_by rfl) (own := [("k", 2)]) (is := [2]) (f := pt) (F := fun k => onWay (gp row k) (gp row (k + 1)) t) (by decide) (ai_rng rfl T.m_range (av_sub (av_lenD rfl T.m_len (av_var (i := 0) rfl (.inr (.inl rfl)) rfl) hL_row) av_int) (by walk_at "om") (by walk_at "om") ⟨rfl, rfl, by walk_at "len", (fun _ x => trivial), fun i hi => ⟨_, fun s H C cl fp => ⟨(ag_name (i := 2) sc_next_row.nd rfl (.inl rfl)), fun A' x => (AE.av (ae_call (ok_on_way T) (hr.mono (by decide)) rfl (AVs.aes (avs_c (av_ixDN ((0, 0) : Pt) (av_var (i := 0) rfl (.inr (.inl rfl)) rfl) (hL_row.ext x) (av_var (i := 2) rfl (.inl rfl) rfl) (n := i) (by walk_at "om") (by walk_at "om")) (avs_c (av_ixDN ((0, 0) : Pt) (av_var (i := 0) rfl (.inr (.inl rfl)) rfl) (hL_row.ext x) (av_add (av_var (i := 2) rfl (.inl rfl) rfl) av_int) (n := (i + 1)) (by walk_at "om") (by walk_at "om")) (avs_c (av_var (i := 1) rfl (.inr (.inl rfl)) rfl) avs_nil))) ⟨_, _, _, m, n, rfl, hz _ (gp_mem (by omega)), hz _ (gp_mem (by omega)), ht, hmn, ⟨rfl, Ext.refl _⟩⟩)))⟩⟩⟩)) ?_
  rw [show ((row.length : Int) - 1).toNat = row.length - 1 by omega]
  exact hk
def ct_rows : Ct := fun ds A k _ => ∃ (d_row : D) (row : List Pt) (t : Rat) (m n : Nat), ds = [d_row, sh t] ∧ (IsL A d_row (row.map pt)) ∧ (0 < row.length) ∧ (row.length ≤ 64) ∧ (∀ j, j < row.length → ∀ p ∈ iterR t row j, SzP m p) ∧ (Sz n t) ∧ (3 * m + n + 1 ≤ 9000) ∧ k (.fz ((rowsR t row).map (fzs pt))) A
theorem ok_rows (T : Txt K mg) : Fn P w K mg base "rows" 7 ct_rows := by
  refine fn_mk T.d_rows sc_rows (fun ds A k e h => ?_) fun f cdv A0 outer s H E hr hp htk ds A kk ee h => ?_
  · obtain ⟨d_row, row, t, m, n, rfl, _⟩ := h; rfl
  obtain ⟨d_row, row, t, m, n, rfl, hL_row, hl0, hl64, hz, ht, hmn, hk⟩ := h
  refine as_set (i := 2) sc_rows.nd rfl (.inl rfl) (AL.ae (al_lst (ds := ([_] : List (List Pt)).map (fzs pt)) (avs_c (av_listF rfl T.m_list (av_var (i := 0) rfl (.inl rfl) rfl) (by walk_at "il")) avs_nil)) fun q hq => ?_)
  refine as_cons (a1_whileN hp (fun u ρ A' => ∃ (rs : List (List Pt)), ρ = [some (d_row), some (sh t), some (.ref q)] ∧ A' = aupd A q (.lst (rs.map (fzs pt))) ∧ (∃ j, j < row.length ∧ u = row.length - j ∧ rs = (List.range (j + 1)).map (iterR t row) ∧ rs.length = j + 1 ∧ rs.getD (rs.length - 1) [] = iterR t row j)) ⟨_, [row], rfl, rfl, 0, hl0, rfl, rfl, rfl, rfl⟩ fun u ρ A' hI => ?_)
  obtain ⟨rs, rfl, rfl, ⟨j, hj, hu, hrs, hrl, hlast⟩⟩ := hI
  refine AT.aet (at_gt (av_lenD rfl T.m_len (av_ixDB ([] : (List Pt)) (av_var (i := 2) rfl (.inl rfl) rfl) (by walk_at "il") (av_neg av_int) (n := 1) rfl (by decide) (by rw [hrl]; omega)) IsL.fz) av_int) ⟨fun hb => ?_, fun hb => ?_⟩
  · skip
    have hil := iterR_len t row j
    rw [hlast] at hb
    have hb : ((iterR t row j).length : Int) > 1 := of_decide_eq_true hb
    refine as_cons (a1_expr (ae_append (AV.ae (av_var (i := 2) rfl (.inl rfl) rfl) ⟨_, rfl, ⟨_, aupd_same⟩, AV.ae (AE.av (ae_call (ok_next_row T) (hr.mono (by decide)) rfl (AVs.aes (avs_c (av_ixDB ([] : (List Pt)) (av_var (i := 2) rfl (.inl rfl) rfl) (by walk_at "il") (av_neg av_int) (n := 1) rfl (by decide) (by rw [hrl]; omega)) (avs_c (av_var (i := 1) rfl (.inl rfl) rfl) avs_nil)) ⟨_, iterR t row j, _, m, n, rfl, by rw [hlast]; exact IsL.fz, hz j hj, ht, hmn, by omega, ⟨rfl, Ext.refl _⟩⟩))) ⟨_, aupd_same, (by walk_at "lt"), ?_⟩⟩)))
    exact as_nil ⟨_, (show row.length - (j + 1) < u by omega), rs ++ [nextR t (iterR t row j)], rfl, by rw [aupd_aupd, map_snoc], j + 1, by omega, rfl, by rw [hrs, List.range_succ (n := j + 1), List.map_append]; rfl, by rw [List.length_append, hrl]; rfl, by rw [List.length_append, hrl]; exact getD_last hrl⟩
  rw [hlast, iterR_len] at hb
  have hb : ¬ (((row.length - j : Nat) : Int) > 1) := of_decide_eq_false hb
  have e : j + 1 = row.length := by omega
  refine as_fz 2 rfl hq ?_
  refine as_retv (av_var (i := 2) rfl (.inl rfl) rfl) ?_
  rw [hrs, e]
  exact hk
def ct_point : Ct := fun ds A k _ => ∃ (d_row : D) (row : List Pt) (t : Rat) (m n : Nat), ds = [d_row, sh t] ∧ (IsL A d_row (row.map pt)) ∧ (0 < row.length) ∧ (row.length ≤ 64) ∧ (∀ j, j < row.length → ∀ p ∈ iterR t row j, SzP m p) ∧ (Sz n t) ∧ (3 * m + n + 1 ≤ 9000) ∧ k (pt (pointR t row)) A
theorem ok_point (T : Txt K mg) : Fn P w K mg base "point" 8 ct_point := by
  refine fn_mk T.d_point sc_point (fun ds A k e h => ?_) fun f cdv A0 outer s H E hr hp htk ds A kk ee h => ?_
  · obtain ⟨d_row, row, t, m, n, rfl, _⟩ := h; rfl
  obtain ⟨d_row, row, t, m, n, rfl, hL_row, hl0, hl64, hz, ht, hmn, hk⟩ := h
  have hrl : (rowsR t row).length = row.length := by unfold rowsR; simp
  have hlast : (rowsR t row).getD ((rowsR t row).length - 1) [] = iterR t row (row.length - 1) := rowsR_last hl0
  have hil := iterR_len t row (row.length - 1)
  refine as_retv (av_ixDN ((0, 0) : Pt) (av_ixDB ([] : (List Pt)) (AE.av (ae_call (ok_rows T) (hr.mono (by decide)) rfl (AVs.aes (avs_c (av_var (i := 0) rfl (.inl rfl) rfl) (avs_c (av_var (i := 1) rfl (.inl rfl) rfl) avs_nil)) ⟨_, _, _, m, n, rfl, hL_row, hl0, hl64, hz, ht, hmn, ⟨rfl, Ext.refl _⟩⟩))) IsL.fz (av_neg av_int) (n := 1) rfl (by decide) (by rw [hrl]; omega)) IsL.fz av_int (n := 0) (by first | rfl | (rw [hlast]; omega)) (by first | rfl | (rw [hlast]; omega))) ?_
  rw [hlast]
  exact hk
def ct_under : Ct := fun ds A k _ => ∃ (p q : Rat) (m n : Nat), ds = [sh p, sh q] ∧ Sz m p ∧ Sz n q ∧ m + n ≤ 9000 ∧ k (.bl (decide (p < q))) A
theorem ok_under (T : Txt K mg) : Fn P w K mg base "under" 1 ct_under := by
  refine fn_mk T.d_under sc_under (fun ds A k e h => ?_) fun f cdv A0 outer s H E hr hp htk ds A kk ee h => ?_
  · obtain ⟨p, q, m, n, rfl, _⟩ := h; rfl
  obtain ⟨p, q, m, n, rfl, hp', hq', hmn, hk⟩ := h
  refine as_retv (AV.is (av_lt (av_mul (av_ixT (av_var (i := 0) rfl (.inl rfl) rfl) av_int rfl) (av_ixT (av_var (i := 1) rfl (.inl rfl) rfl) av_int rfl) (mulx hp'.num hq'.den (by omega))) (av_mul (av_ixT (av_var (i := 1) rfl (.inl rfl) rfl) av_int rfl) (av_ixT (av_var (i := 0) rfl (.inl rfl) rfl) av_int rfl) (mulx hq'.num hp'.den (by omega)))) (by rw [lt_num])) hk
abbrev Ip := Int × Int
abbrev ip (z : Ip) : D := .tup [.int z.1, .int z.2]
def itC (v : Int) : Nat → Int
  | 0 => v
  | k + 1 => itC v k * 48271 % 2147483647
def stC (c : Int) (k : Nat) : Int := itC (1 + c % 2147483646) (k + 3)
theorem itC_bd (v : Int) (k : Nat) : 0 ≤ itC v (k + 1) ∧ itC v (k + 1) < 2147483647 := by
  show 0 ≤ itC v k * 48271 % 2147483647 ∧ itC v k * 48271 % 2147483647 < 2147483647
  omega
theorem stC_bd (c : Int) (k : Nat) : 0 ≤ stC c k ∧ stC c k < 2147483647 := itC_bd _ _
abbrev Wy := Int × Int × Ip × Ip
def wayC (c : Int) : Wy := (([1, 1, 2, 3, 6, 12, 8, 10 ^ (9 : Int).toNat + 7] : List Int).getD (stC c 0 % 8).toNat 0, stC c 3 % 6, (stC c 1 % 41 - 20, stC c 2 % 41 - 20), (stC c 4 % 7 - 3, stC c 5 % 7 - 3))
structure WyOk (W : Wy) : Prop where
  b0 : 0 < W.1
  b1 : W.1 ≤ 1000000007
  s1 : -20 ≤ W.2.2.1.1 ∧ W.2.2.1.1 ≤ 20
  s2 : -20 ≤ W.2.2.1.2 ∧ W.2.2.1.2 ≤ 20
  t1 : -3 ≤ W.2.2.2.1 ∧ W.2.2.2.1 ≤ 3
  t2 : -3 ≤ W.2.2.2.2 ∧ W.2.2.2.2 ≤ 3
theorem wayC_ok (c : Int) : WyOk (wayC c) := by
  have h0 : 0 ≤ stC c 0 % 8 ∧ stC c 0 % 8 < 8 := by omega
  have hb : 0 < (wayC c).1 ∧ (wayC c).1 ≤ 1000000007 := by
    show 0 < ([1, 1, 2, 3, 6, 12, 8, 10 ^ (9 : Int).toNat + 7] : List Int).getD (stC c 0 % 8).toNat 0 ∧ ([1, 1, 2, 3, 6, 12, 8, 10 ^ (9 : Int).toNat + 7] : List Int).getD (stC c 0 % 8).toNat 0 ≤ 1000000007
    have hk : (stC c 0 % 8).toNat < 8 := by omega
    generalize (stC c 0 % 8).toNat = k at hk
    match k, hk with
    | 0, _ | 1, _ | 2, _ | 3, _ | 4, _ | 5, _ | 6, _ | 7, _ => decide
  refine ⟨hb.1, hb.2, ?_, ?_, ?_, ?_⟩
  · show -20 ≤ stC c 1 % 41 - 20 ∧ stC c 1 % 41 - 20 ≤ 20; omega
  · show -20 ≤ stC c 2 % 41 - 20 ∧ stC c 2 % 41 - 20 ≤ 20; omega
  · show -3 ≤ stC c 4 % 7 - 3 ∧ stC c 4 % 7 - 3 ≤ 3; omega
  · show -3 ≤ stC c 5 % 7 - 3 ∧ stC c 5 % 7 - 3 ≤ 3; omega
def placeC (W : Wy) (c : Int) : Ip :=
  if W.2.1 = 1 then (c % 10 ^ (30 : Int).toNat - 5 * 10 ^ (29 : Int).toNat, c * stC c 0 % 10 ^ (30 : Int).toNat - 5 * 10 ^ (29 : Int).toNat)
  else if W.2.1 = 2 then (W.2.2.1.1 + W.2.2.2.1 * (stC c 0 % 9), W.2.2.1.2 + W.2.2.2.2 * (stC c 0 % 9))
  else if W.2.1 = 3 then (W.2.2.1.1 + stC c 0 % 2 * W.2.2.2.1, W.2.2.1.2)
  else if W.2.1 = 4 then (W.2.2.1.1 * 10 ^ (25 : Int).toNat + stC c 0 % 3, W.2.2.1.2 * 10 ^ (25 : Int).toNat + stC c 1 % 3)
  else if c > 1680 then (c % 41 - 20, c / 41 % 41 - 20)
  else (stC c 0 % 7 - 3, stC c 1 % 7 - 3)
theorem placeC_bd {W : Wy} (h : WyOk W) (c : Int) : (placeC W c).1.natAbs < 2 ^ 101 ∧ (placeC W c).2.natAbs < 2 ^ 101 := by
  have w1 := h.s1
  have w2 := h.s2
  have w3 := h.t1
  have w4 := h.t2
  have h0 := stC_bd c 0
  have h1 := stC_bd c 1
  have e30 : (10 : Int) ^ (30 : Int).toNat = 1000000000000000000000000000000 := by decide
  have e29 : (10 : Int) ^ (29 : Int).toNat = 100000000000000000000000000000 := by decide
  have e25 : (10 : Int) ^ (25 : Int).toNat = 10000000000000000000000000 := by decide
  have e101 : (2 : Nat) ^ 101 = 2535301200456458802993406410752 := by decide
  rw [e101]
  unfold placeC
  rw [e30, e29, e25]
  have sm : ∀ a b : Int, -3 ≤ a ∧ a ≤ 3 → 0 ≤ b ∧ b ≤ 9 → -27 ≤ a * b ∧ a * b ≤ 27 := by
    intro a b ha hb
    have : b = 0 ∨ b = 1 ∨ b = 2 ∨ b = 3 ∨ b = 4 ∨ b = 5 ∨ b = 6 ∨ b = 7 ∨ b = 8 ∨ b = 9 := by omega
    rcases this with r | r | r | r | r | r | r | r | r | r <;> subst r <;> omega
  have m1 := sm _ (stC c 0 % 9) w3 (by omega)
  have m2 := sm _ (stC c 0 % 9) w4 (by omega)
  have m3 := sm _ (stC c 0 % 2) w3 (by omega)
  split
  · dsimp only; omega
  split
  · dsimp only; omega
  split
  · dsimp only; rw [Int.mul_comm (stC c 0 % 2)]; omega
  split
  · dsimp only; omega
  split
  · dsimp only; omega
  · dsimp only; omega
def eTL {α : Type} [DecidableEq α] (e : Enc α) (he : ∀ x, (e.p x).depth ≤ 10) : Enc (List α) where
  d := fun xs => .tup (xs.map e.d)
  p := fun xs => .tuple (xs.map e.p)
  py := fun A xs => .tup (pysAll e A xs)
  lay := fun xs => layAll e xs
  dep := fun xs => (eL e he).dep xs
  eqv := fun x y => eqvAll e x y
def minI : List Int → Int
  | [] => 0
  | [x] => x
  | x :: y :: r => if minI (y :: r) < x then minI (y :: r) else x
def maxI : List Int → Int
  | [] => 0
  | [x] => x
  | x :: y :: r => if x < maxI (y :: r) then maxI (y :: r) else x
theorem minI_ok : ∀ ns : List Int, 0 < ns.length → minI ns ∈ ns ∧ ∀ y ∈ ns, minI ns ≤ y
  | [], h => absurd h (by decide)
  | [x], _ => ⟨List.mem_singleton.mpr rfl, fun y hy => by rw [List.mem_singleton.mp hy]; exact Int.le_refl _⟩
  | x :: y :: r, _ => by
    obtain ⟨h1, h2⟩ := minI_ok (y :: r) (Nat.zero_lt_succ _)
    show (if minI (y :: r) < x then minI (y :: r) else x) ∈ _ ∧ ∀ z ∈ _, (if minI (y :: r) < x then minI (y :: r) else x) ≤ z
    split
    · exact ⟨List.mem_cons_of_mem _ h1, fun z hz => (List.mem_cons.mp hz).elim (fun e => by omega) (fun e => h2 z e)⟩
    · exact ⟨List.mem_cons_self, fun z hz => (List.mem_cons.mp hz).elim (fun e => by omega) (fun e => by have := h2 z e; omega)⟩
theorem maxI_ok : ∀ ns : List Int, 0 < ns.length → maxI ns ∈ ns ∧ ∀ y ∈ ns, y ≤ maxI ns
  | [], h => absurd h (by decide)
  | [x], _ => ⟨List.mem_singleton.mpr rfl, fun y hy => by rw [List.mem_singleton.mp hy]; exact Int.le_refl _⟩
  | x :: y :: r, _ => by
    obtain ⟨h1, h2⟩ := maxI_ok (y :: r) (Nat.zero_lt_succ _)
    show (if x < maxI (y :: r) then maxI (y :: r) else x) ∈ _ ∧ ∀ z ∈ _, z ≤ (if x < maxI (y :: r) then maxI (y :: r) else x)
    split
    · exact ⟨List.mem_cons_of_mem _ h1, fun z hz => (List.mem_cons.mp hz).elim (fun e => by omega) (fun e => h2 z e)⟩
    · exact ⟨List.mem_cons_self, fun z hz => (List.mem_cons.mp hz).elim (fun e => by omega) (fun e => by have := h2 z e; omega)⟩
theorem av_minL {X : Cx} {ρ : Ro} {A : AH} {a : Expr} {pos p0 : Pos} {ns : List Int} (hc : X.calm = true) (hg : Gl X "min") (hm : X.mg "min" = none) (h : AV X a ρ A (.fz (ns.map D.int))) (h0 : 0 < ns.length) (hs : starEach [a] X.env = [(false, eval a X.env)] := by rfl) : AV X (.Call (.Name "min" p0) [a] [] pos) ρ A (.int (minI ns)) :=
  AE.av (ae_callB (cr_min hc) hg hm (by decide +kernel) (aes_cons (h.ae (aes_nil (fun vs H r l Q q => by
    obtain ⟨v, rfl, r1⟩ := rps1 r
    obtain ⟨p, ws, rfl, h1, h2⟩ := IsL.sq IsL.fz r1 l
    refine ⟨p, ns, rfl, by rw [← h2.ints]; exact h1, h0, fun m hm hmin => ?_⟩
    obtain ⟨g1, g2⟩ := minI_ok ns h0
    have e : m = minI ns := Int.le_antisymm (hmin _ g1) (g2 _ hm)
    rw [e]
    exact q _ H _ A (TS.refl H) (.int _) l ⟨rfl, Ext.refl _⟩))) hs) (he := hs) (hpl := rfl))
theorem av_maxL {X : Cx} {ρ : Ro} {A : AH} {a : Expr} {pos p0 : Pos} {ns : List Int} (hc : X.calm = true) (hg : Gl X "max") (hm : X.mg "max" = none) (h : AV X a ρ A (.fz (ns.map D.int))) (h0 : 0 < ns.length) (hs : starEach [a] X.env = [(false, eval a X.env)] := by rfl) : AV X (.Call (.Name "max" p0) [a] [] pos) ρ A (.int (maxI ns)) :=
  AE.av (ae_callB (cr_max hc) hg hm (by decide +kernel) (aes_cons (h.ae (aes_nil (fun vs H r l Q q => by
    obtain ⟨v, rfl, r1⟩ := rps1 r
    obtain ⟨p, ws, rfl, h1, h2⟩ := IsL.sq IsL.fz r1 l
    refine ⟨p, ns, rfl, by rw [← h2.ints]; exact h1, h0, fun m hm hmin => ?_⟩
    obtain ⟨g1, g2⟩ := maxI_ok ns h0
    have e : m = maxI ns := Int.le_antisymm (g2 _ hm) (hmin _ g1)
    rw [e]
    exact q _ H _ A (TS.refl H) (.int _) l ⟨rfl, Ext.refl _⟩))) hs) (he := hs) (hpl := rfl))
def ptC (b : Int) (z : Ip) : Pt := ((z.1 : Rat) / (b : Rat), (z.2 : Rat) / (b : Rat))
/-- the least, the greatest, as the program looks for them -/
def lo2 (f x : Rat) : Rat := if x < f then x else f
def hi2 (f x : Rat) : Rat := if f < x then x else f
def leastR (xs : List Rat) : Rat := xs.foldl lo2 (xs.getD 0 0)
def greatR (xs : List Rat) : Rat := xs.foldl hi2 (xs.getD 0 0)
theorem div_lt {a c b : Int} (hb : 0 < b) : ((a : Rat) / (b : Rat) < (c : Rat) / (b : Rat)) ↔ a < c := by
  have h0 : (0 : Rat) < (b : Rat) := by exact_mod_cast hb
  have h1 : (b : Rat) ≠ 0 := fun e => (show b ≠ 0 by omega) (by exact_mod_cast e)
  constructor
  · intro h
    have h2 := Rat.mul_lt_mul_of_pos_right h h0
    rw [Rat.div_mul_cancel h1, Rat.div_mul_cancel h1] at h2
    exact_mod_cast h2
  · intro h
    have h2 : (a : Rat) < (c : Rat) := by exact_mod_cast h
    refine Classical.byContradiction fun hn => ?_
    have hn := Rat.not_lt.mp hn
    have h3 := Rat.mul_le_mul_of_nonneg_right hn (Rat.le_of_lt h0)
    rw [Rat.div_mul_cancel h1, Rat.div_mul_cancel h1] at h3
    exact absurd h2 (Rat.not_lt.mpr h3)
theorem lo_fold {b : Int} (hb : 0 < b) : ∀ (ns : List Int) (f : Int), ∃ m : Int, (ns.map fun n : Int => (n : Rat) / (b : Rat)).foldl lo2 ((f : Rat) / (b : Rat)) = (m : Rat) / (b : Rat) ∧ (m = f ∨ m ∈ ns) ∧ m ≤ f ∧ ∀ y ∈ ns, m ≤ y
  | [], f => ⟨f, rfl, .inl rfl, Int.le_refl _, fun y hy => nomatch hy⟩
  | x :: r, f => by
    rw [List.map_cons, List.foldl_cons]
    have e : lo2 ((f : Rat) / (b : Rat)) ((x : Rat) / (b : Rat)) = (((if x < f then x else f : Int)) : Rat) / (b : Rat) := by
      unfold lo2
      by_cases h : x < f
      · rw [if_pos ((div_lt hb).mpr h), if_pos h]
      · rw [if_neg (fun z => h ((div_lt hb).mp z)), if_neg h]
    rw [e]
    obtain ⟨m, h1, h2, h3, h4⟩ := lo_fold hb r (if x < f then x else f)
    refine ⟨m, h1, ?_, by split at h3 <;> omega, fun y hy => ?_⟩
    · rcases h2 with h2 | h2
      · split at h2
        · exact .inr (by rw [h2]; exact List.mem_cons_self)
        · exact .inl h2
      · exact .inr (List.mem_cons_of_mem _ h2)
    · rcases List.mem_cons.mp hy with e | e
      · split at h3 <;> omega
      · exact h4 y e
theorem hi_fold {b : Int} (hb : 0 < b) : ∀ (ns : List Int) (f : Int), ∃ m : Int, (ns.map fun n : Int => (n : Rat) / (b : Rat)).foldl hi2 ((f : Rat) / (b : Rat)) = (m : Rat) / (b : Rat) ∧ (m = f ∨ m ∈ ns) ∧ f ≤ m ∧ ∀ y ∈ ns, y ≤ m
  | [], f => ⟨f, rfl, .inl rfl, Int.le_refl _, fun y hy => nomatch hy⟩
  | x :: r, f => by
    rw [List.map_cons, List.foldl_cons]
    have e : hi2 ((f : Rat) / (b : Rat)) ((x : Rat) / (b : Rat)) = (((if f < x then x else f : Int)) : Rat) / (b : Rat) := by
      unfold hi2
      by_cases h : f < x
      · rw [if_pos ((div_lt hb).mpr h), if_pos h]
      · rw [if_neg (fun z => h ((div_lt hb).mp z)), if_neg h]
    rw [e]
    obtain ⟨m, h1, h2, h3, h4⟩ := hi_fold hb r (if f < x then x else f)
    refine ⟨m, h1, ?_, by split at h3 <;> omega, fun y hy => ?_⟩
    · rcases h2 with h2 | h2
      · split at h2
        · exact .inr (by rw [h2]; exact List.mem_cons_self)
        · exact .inl h2
      · exact .inr (List.mem_cons_of_mem _ h2)
    · rcases List.mem_cons.mp hy with e | e
      · split at h3 <;> omega
      · exact h4 y e
theorem least_min {b : Int} (hb : 0 < b) {ns ms : List Int} (h0 : 0 < ns.length) (hp : ∀ x, x ∈ ns ↔ x ∈ ms) : leastR (ns.map fun n : Int => (n : Rat) / (b : Rat)) = (minI ms : Rat) / (b : Rat) := by
  obtain ⟨x, r, rfl⟩ : ∃ x r, ns = x :: r := by cases ns with | nil => exact absurd h0 (by decide) | cons x r => exact ⟨x, r, rfl⟩
  have hm0 : 0 < ms.length := List.length_pos_of_mem ((hp x).mp List.mem_cons_self)
  obtain ⟨m, h1, h2, h3, h4⟩ := lo_fold hb (x :: r) x
  obtain ⟨g1, g2⟩ := minI_ok ms hm0
  have hm : m ∈ x :: r := h2.elim (fun e => by rw [e]; exact List.mem_cons_self) id
  have e : m = minI ms := Int.le_antisymm (h4 _ ((hp _).mpr g1)) (g2 _ ((hp _).mp hm))
  unfold leastR
  rw [← e, ← h1]
  rfl
theorem great_max {b : Int} (hb : 0 < b) {ns ms : List Int} (h0 : 0 < ns.length) (hp : ∀ x, x ∈ ns ↔ x ∈ ms) : greatR (ns.map fun n : Int => (n : Rat) / (b : Rat)) = (maxI ms : Rat) / (b : Rat) := by
  obtain ⟨x, r, rfl⟩ : ∃ x r, ns = x :: r := by cases ns with | nil => exact absurd h0 (by decide) | cons x r => exact ⟨x, r, rfl⟩
  have hm0 : 0 < ms.length := List.length_pos_of_mem ((hp x).mp List.mem_cons_self)
  obtain ⟨m, h1, h2, h3, h4⟩ := hi_fold hb (x :: r) x
  obtain ⟨g1, g2⟩ := maxI_ok ms hm0
  have hm : m ∈ x :: r := h2.elim (fun e => by rw [e]; exact List.mem_cons_self) id
  have e : m = maxI ms := Int.le_antisymm (g2 _ ((hp _).mp hm)) (h4 _ ((hp _).mpr g1))
  unfold greatR
  rw [← e, ← h1]
  rfl
def ct_least_of : Ct := fun ds A k _ => ∃ (xs : (List Rat)), ds = [.fz (xs.map sh)] ∧ (∀ x ∈ xs, Sz 200 x) ∧ (0 < xs.length) ∧ (xs.length ≤ 100) ∧ k (sh (leastR xs)) A
theorem ok_least_of (T : Txt K mg) : Fn P w K mg base "least_of" 2 ct_least_of := by
  refine fn_mk T.d_least_of sc_least_of (fun ds A k e h => ?_) fun f cdv A0 outer s H E hr hp htk ds A kk ee h => ?_
  · obtain ⟨xs, rfl, _⟩ := h; rfl
  obtain ⟨xs, rfl, hz, hl0, hl, hk⟩ := h
  refine as_setv (f := sh) (i := 1) sc_least_of.nd rfl (.inl rfl) (av_ixDN (f := sh) (0 : Rat) (av_var (i := 0) rfl (.inl rfl) rfl) IsL.fz av_int (n := 0) (by first | rfl | exact hl0) (by first | rfl | exact hl0)) fun f0 hf0 => ?_
  have z0 : Sz 200 f0 := by rw [hf0]; exact getD_in (P := Sz 200) hz hl0
  refine as_cons (a1_for hp rfl (ai_F (0 : Rat) (f := sh) (av_var (i := 0) rfl (.inl rfl) rfl) ⟨fun i ρ A' => ∃ (y : Option D) (f : Rat), ρ = [some (.fz (xs.map sh)), some (sh f), y] ∧ A = A' ∧ (f = (xs.take i).foldl lo2 f0) ∧ (Sz 200 f), ⟨_, f0, rfl, rfl, rfl, z0⟩, fun i ρ A' hle hI => trivial, fun i ρ A' hi hI => ⟨_, _, (ag_name (i := 2) sc_least_of.nd rfl (.inl rfl)), ?_⟩, fun ρ A' hI => ?_⟩))
  · skip
    obtain ⟨y, f, rfl, rfl, hf, zf⟩ := hI
    have zx : Sz 200 (xs.getD i 0) := getD_in (P := Sz 200) hz hi
    refine as_if1 (f := sh) (fun f2 : Rat => f2 = lo2 f (xs.getD i 0)) 1 (at_val (AE.av (ae_call (ok_under T) (hr.mono (by decide)) rfl (AVs.aes (avs_c (av_var (i := 2) rfl (.inl rfl) rfl) (avs_c (av_var (i := 1) rfl (.inl rfl) rfl) avs_nil)) ⟨_, _, 200, 200, rfl, zx, zf, by decide, ⟨rfl, Ext.refl _⟩⟩)))) (fun hb => ?_) (fun hb => ?_) fun f2 hf2 => ?_
    · have hb := of_decide_eq_true hb
      refine as_set (i := 1) sc_least_of.nd rfl (.inl rfl) (AV.ae (av_var (i := 2) rfl (.inl rfl) rfl) ?_)
      exact as_nil ⟨xs.getD i 0, by unfold lo2; rw [if_pos hb], rfl, rfl⟩
    · have hb := of_decide_eq_false hb
      exact as_nil ⟨f, by unfold lo2; rw [if_neg hb], rfl, rfl⟩
    have zf2 : Sz 200 f2 := by rw [hf2]; unfold lo2; split <;> assumption
    have e : f2 = (xs.take (i + 1)).foldl lo2 f0 := by rw [List.take_succ, List.foldl_append, ← hf, hf2, List.getElem?_eq_getElem hi, List.getD_eq_getElem?_getD, List.getElem?_eq_getElem hi]; rfl
    exact as_nil ⟨_, f2, rfl, rfl, e, zf2⟩
  obtain ⟨y, f, rfl, rfl, hf, zf⟩ := hI
  refine as_retv (av_var (i := 1) rfl (.inl rfl) rfl) ?_
  rw [hf, List.take_length, hf0]
  exact hk
def ct_greatest_of : Ct := fun ds A k _ => ∃ (xs : (List Rat)), ds = [.fz (xs.map sh)] ∧ (∀ x ∈ xs, Sz 200 x) ∧ (0 < xs.length) ∧ (xs.length ≤ 100) ∧ k (sh (greatR xs)) A
theorem ok_greatest_of (T : Txt K mg) : Fn P w K mg base "greatest_of" 2 ct_greatest_of := by
  refine fn_mk T.d_greatest_of sc_greatest_of (fun ds A k e h => ?_) fun f cdv A0 outer s H E hr hp htk ds A kk ee h => ?_
  · obtain ⟨xs, rfl, _⟩ := h; rfl
  obtain ⟨xs, rfl, hz, hl0, hl, hk⟩ := h
  refine as_setv (f := sh) (i := 1) sc_greatest_of.nd rfl (.inl rfl) (av_ixDN (f := sh) (0 : Rat) (av_var (i := 0) rfl (.inl rfl) rfl) IsL.fz av_int (n := 0) (by first | rfl | exact hl0) (by first | rfl | exact hl0)) fun f0 hf0 => ?_
  have z0 : Sz 200 f0 := by rw [hf0]; exact getD_in (P := Sz 200) hz hl0
  refine as_cons (a1_for hp rfl (ai_F (0 : Rat) (f := sh) (av_var (i := 0) rfl (.inl rfl) rfl) ⟨fun i ρ A' => ∃ (y : Option D) (f : Rat), ρ = [some (.fz (xs.map sh)), some (sh f), y] ∧ A = A' ∧ (f = (xs.take i).foldl hi2 f0) ∧ (Sz 200 f), ⟨_, f0, rfl, rfl, rfl, z0⟩, fun i ρ A' hle hI => trivial, fun i ρ A' hi hI => ⟨_, _, (ag_name (i := 2) sc_greatest_of.nd rfl (.inl rfl)), ?_⟩, fun ρ A' hI => ?_⟩))
  · skip
    obtain ⟨y, f, rfl, rfl, hf, zf⟩ := hI
    have zx : Sz 200 (xs.getD i 0) := getD_in (P := Sz 200) hz hi
    refine as_if1 (f := sh) (fun f2 : Rat => f2 = hi2 f (xs.getD i 0)) 1 (at_val (AE.av (ae_call (ok_under T) (hr.mono (by decide)) rfl (AVs.aes (avs_c (av_var (i := 1) rfl (.inl rfl) rfl) (avs_c (av_var (i := 2) rfl (.inl rfl) rfl) avs_nil)) ⟨_, _, 200, 200, rfl, zf, zx, by decide, ⟨rfl, Ext.refl _⟩⟩)))) (fun hb => ?_) (fun hb => ?_) fun f2 hf2 => ?_
    · have hb := of_decide_eq_true hb
      refine as_set (i := 1) sc_greatest_of.nd rfl (.inl rfl) (AV.ae (av_var (i := 2) rfl (.inl rfl) rfl) ?_)
      exact as_nil ⟨xs.getD i 0, by unfold hi2; rw [if_pos hb], rfl, rfl⟩
    · have hb := of_decide_eq_false hb
      exact as_nil ⟨f, by unfold hi2; rw [if_neg hb], rfl, rfl⟩
    have zf2 : Sz 200 f2 := by rw [hf2]; unfold hi2; split <;> assumption
    have e : f2 = (xs.take (i + 1)).foldl hi2 f0 := by rw [List.take_succ, List.foldl_append, ← hf, hf2, List.getElem?_eq_getElem hi, List.getD_eq_getElem?_getD, List.getElem?_eq_getElem hi]; rfl
    exact as_nil ⟨_, f2, rfl, rfl, e, zf2⟩
  obtain ⟨y, f, rfl, rfl, hf, zf⟩ := hI
  refine as_retv (av_var (i := 1) rfl (.inl rfl) rfl) ?_
  rw [hf, List.take_length, hf0]
  exact hk
def ct_box : Ct := fun ds A k _ => ∃ (row : (List Pt)), ds = [.fz (row.map pt)] ∧ (∀ p ∈ row, SzP 200 p) ∧ (0 < row.length) ∧ (row.length ≤ 100) ∧ k (.tup (([leastR (row.map Prod.fst), leastR (row.map Prod.snd), greatR (row.map Prod.fst), greatR (row.map Prod.snd)] : List Rat).map sh)) A
theorem ok_box (T : Txt K mg) : Fn P w K mg base "box" 3 ct_box := by
  refine fn_mk T.d_box sc_box (fun ds A k e h => ?_) fun f cdv A0 outer s H E hr hp htk ds A kk ee h => ?_
  · obtain ⟨row, rfl, _⟩ := h; rfl
  obtain ⟨row, rfl, hz, hl0, hl, hk⟩ := h
  refine as_setLcF (i := 1) rfl sc_box.nd rfl rfl (sw_true rfl rfl rfl rfl) (blkOk_by rfl) (Nat.le_of_ble_eq_true rfl) (own := [("place", 3)]) (is := [3]) (f := sh) (F := fun i => (row.getD i (0, 0)).1) (by decide) (ai_F ((0, 0) : Pt) (f := pt) (av_var (i := 0) rfl (.inl rfl) rfl) ⟨rfl, rfl, (Nat.le_of_lt (small1000 (by omega))), (fun _ x => trivial), fun i hi => ⟨_, fun s H C cl fp => ⟨(ag_name (i := 3) sc_box.nd rfl (.inl rfl)), fun A' x => (av_ixT (av_var (i := 3) rfl (.inl rfl) rfl) av_int rfl)⟩⟩⟩) fun xs hxs => ?_
  have hxs : xs = row.map Prod.fst := by first | (rw [hxs]; exact map_range_get row (0, 0) Prod.fst) | (subst hxs; exact map_range_get row (0, 0) Prod.fst)
  refine as_setLcF (i := 2) rfl sc_box.nd rfl rfl (sw_true rfl rfl rfl rfl) (blkOk_by rfl) (Nat.le_of_ble_eq_true rfl) (own := [("place", 3)]) (is := [3]) (f := sh) (F := fun i => (row.getD i (0, 0)).2) (by decide) (ai_F ((0, 0) : Pt) (f := pt) (av_var (i := 0) rfl (.inl rfl) rfl) ⟨rfl, rfl, (Nat.le_of_lt (small1000 (by omega))), (fun _ x => trivial), fun i hi => ⟨_, fun s H C cl fp => ⟨(ag_name (i := 3) sc_box.nd rfl (.inl rfl)), fun A' x => (av_ixT (av_var (i := 3) rfl (.inl rfl) rfl) av_int rfl)⟩⟩⟩) fun ys hys => ?_
  have hys : ys = row.map Prod.snd := by first | (rw [hys]; exact map_range_get row (0, 0) Prod.snd) | (subst hys; exact map_range_get row (0, 0) Prod.snd)
  have zx : ∀ x ∈ xs, Sz 200 x := fun x hx => by rw [hxs, List.mem_map] at hx; obtain ⟨p, hp, rfl⟩ := hx; exact (hz p hp).1
  have zy : ∀ x ∈ ys, Sz 200 x := fun x hx => by rw [hys, List.mem_map] at hx; obtain ⟨p, hp, rfl⟩ := hx; exact (hz p hp).2
  have hx0 : xs.length = row.length ∧ ys.length = row.length := by rw [hxs, hys, List.length_map, List.length_map]; exact ⟨rfl, rfl⟩
  refine as_retv (av_tup (avs_c (AE.av (ae_call (ok_least_of T) (hr.mono (by decide)) rfl (AVs.aes (avs_c (av_var (i := 1) rfl (.inl rfl) rfl) avs_nil) ⟨_, rfl, zx, by omega, by omega, ⟨rfl, Ext.refl _⟩⟩))) (avs_c (AE.av (ae_call (ok_least_of T) (hr.mono (by decide)) rfl (AVs.aes (avs_c (av_var (i := 2) rfl (.inl rfl) rfl) avs_nil) ⟨_, rfl, zy, by omega, by omega, ⟨rfl, Ext.refl _⟩⟩))) (avs_c (AE.av (ae_call (ok_greatest_of T) (hr.mono (by decide)) rfl (AVs.aes (avs_c (av_var (i := 1) rfl (.inl rfl) rfl) avs_nil) ⟨_, rfl, zx, by omega, by omega, ⟨rfl, Ext.refl _⟩⟩))) (avs_c (AE.av (ae_call (ok_greatest_of T) (hr.mono (by decide)) rfl (AVs.aes (avs_c (av_var (i := 2) rfl (.inl rfl) rfl) avs_nil) ⟨_, rfl, zy, by omega, by omega, ⟨rfl, Ext.refl _⟩⟩))) avs_nil))))) ?_
  rw [hxs, hys]
  exact hk
def ct_show_share : Ct := fun ds A k _ => ∃ (q : Rat) (m : Nat), ds = [sh q] ∧ (Sz m q) ∧ (m ≤ 1900) ∧ (0 < m) ∧ k (.str (shT q)) A
theorem ok_show_share (T : Txt K mg) : Fn P w K mg base "show_share" 1 ct_show_share := by
  refine fn_mk T.d_show_share sc_show_share (fun ds A k e h => ?_) fun f cdv A0 outer s H E hr hp htk ds A kk ee h => ?_
  · obtain ⟨q, m, rfl, _⟩ := h; rfl
  obtain ⟨q, m, rfl, hq, hm, hm0, hk⟩ := h
  have h1 := wl_len hm0 hq.num
  have h2 := wl_len hm0 hq.den
  rw [← tl_tx, ← TL.len_tl] at h1 h2
  have h3 : (tx q.num ++ "/").length = (tx q.num).length + 1 := by rw [TL.len_tl, TL.tl_append, List.length_append, ← TL.len_tl]; rfl
  refine as_if (at_eq (av_ixT (av_var (i := 0) rfl (.inl rfl) rfl) av_int rfl) av_int) (fun hb => ?_) (fun hb => as_end ?_)
  · have hb : q.den = 1 := by have := of_decide_eq_true hb; omega
    rw [shT, if_pos hb] at hk
    refine as_retv (av_strI rfl T.m_str (av_ixT (av_var (i := 0) rfl (.inl rfl) rfl) av_int rfl) (log_lt hq.num (by omega) hm0)) hk
  have hb : ¬ q.den = 1 := by have := of_decide_eq_false hb; omega
  rw [shT, if_neg hb] at hk
  refine as_retv (av_catS (av_catS (av_strI rfl T.m_str (av_ixT (av_var (i := 0) rfl (.inl rfl) rfl) av_int rfl) (log_lt hq.num (by omega) hm0)) av_str (Nat.le_of_lt (small_sz (show (tx q.num).length + 1 < 2000000 by omega)))) (av_strI rfl T.m_str (av_ixT (av_var (i := 0) rfl (.inl rfl) rfl) av_int rfl) (log_lt hq.den (by omega) hm0)) (Nat.le_of_lt (small_sz (by rw [h3]; omega)))) hk
def ct_show_point : Ct := fun ds A k _ => ∃ (p : Pt) (m : Nat), ds = [pt p] ∧ (SzP m p) ∧ (m ≤ 1900) ∧ (0 < m) ∧ k (.str (ptT p)) A
theorem ok_show_point (T : Txt K mg) : Fn P w K mg base "show_point" 2 ct_show_point := by
  refine fn_mk T.d_show_point sc_show_point (fun ds A k e h => ?_) fun f cdv A0 outer s H E hr hp htk ds A kk ee h => ?_
  · obtain ⟨p, m, rfl, _⟩ := h; rfl
  obtain ⟨p, m, rfl, hq, hm, hm0, hk⟩ := h
  have h1 := shT_len hm0 hq.1
  have h2 := shT_len hm0 hq.2
  have h3 : (shT p.1 ++ ",").length = (shT p.1).length + 1 := by rw [TL.len_tl, TL.tl_append, List.length_append, ← TL.len_tl]; rfl
  refine as_retv (av_catS (av_catS (AE.av (ae_call (ok_show_share T) (hr.mono (by decide)) rfl (AVs.aes (avs_c (av_ixT (av_var (i := 0) rfl (.inl rfl) rfl) av_int rfl) avs_nil) ⟨_, m, rfl, hq.1, hm, hm0, ⟨rfl, Ext.refl _⟩⟩))) av_str (Nat.le_of_lt (small_sz (show (shT p.1).length + 1 < 2000000 by omega)))) (AE.av (ae_call (ok_show_share T) (hr.mono (by decide)) rfl (AVs.aes (avs_c (av_ixT (av_var (i := 0) rfl (.inl rfl) rfl) av_int rfl) avs_nil) ⟨_, m, rfl, hq.2, hm, hm0, ⟨rfl, Ext.refl _⟩⟩))) (Nat.le_of_lt (small_sz (by rw [h3]; omega)))) hk
def ct_show_curve : Ct := fun ds A k _ => ∃ (d_row : D) (row : List Pt) (m : Nat), ds = [d_row] ∧ (IsL A d_row (row.map pt)) ∧ (∀ p ∈ row, SzP m p) ∧ (m ≤ 1900) ∧ (0 < m) ∧ (row.length ≤ 64) ∧ k (.str (cvT row)) A
theorem ok_show_curve (T : Txt K mg) : Fn P w K mg base "show_curve" 3 ct_show_curve := by
  refine fn_mk T.d_show_curve sc_show_curve (fun ds A k e h => ?_) fun f cdv A0 outer s H E hr hp htk ds A kk ee h => ?_
  · obtain ⟨d_row, row, m, rfl, _⟩ := h; rfl
  obtain ⟨d_row, row, m, rfl, hL_row, hz, hm, hm0, hl, hk⟩ := h
  have hln : ∀ x ∈ row.map ptT, x.length ≤ 7700 := fun x hx => by
    obtain ⟨p, hp, rfl⟩ := List.mem_map.mp hx
    have := ptT_len hm0 (hz p hp)
    omega
  have hsm := sum_len hln
  rw [List.length_map] at hsm
  refine as_retv (av_join (ys := row.map ptT) av_str (AV.is (av_lcF rfl sc_show_curve.nd (blkOk_by rfl) (own := [("seat", 1)]) (is := [1]) (f := D.str) (F := fun i => ptT (gp row i)) (by decide) (ai_D ((0, 0) : Pt) (f := pt) (av_var (i := 0) rfl (.inl rfl) rfl) (by walk_at "il") ⟨rfl, rfl, (Nat.le_of_lt (small1000 (by omega))), (fun _ x => (by walk_at "ilx")), fun i hi => ⟨_, fun s H C cl fp => ⟨(ag_name (i := 1) sc_show_curve.nd rfl (.inl rfl)), fun A' x => (AE.av (ae_call (ok_show_point T) (hr.mono (by decide)) rfl (AVs.aes (avs_c (av_var (i := 1) rfl (.inl rfl) rfl) avs_nil) ⟨_, m, rfl, hz _ (gp_mem hi), hm, hm0, ⟨rfl, Ext.refl _⟩⟩)))⟩⟩⟩)) (show _ = D.fz ((row.map ptT).map D.str) by rw [← map_range_get row ((0, 0) : Pt) ptT]; rfl)) IsL.fz (by rw [List.length_map]; have e1 : ((" " : Str)).length = 1 := rfl; rw [e1]; omega)) hk
/-- a box as a text -/
def boxL (row : List Pt) : List Rat := [leastR (row.map Prod.fst), leastR (row.map Prod.snd), greatR (row.map Prod.fst), greatR (row.map Prod.snd)]
def boxT (row : List Pt) : Str := Str.join " " ((boxL row).map shT)
/-- what is told of a curve -/
def AskV (m n : Nat) (row : List Pt) (w : Str) (ps : List D) (a : Str) : Prop :=
  (w = "tell" ∧ a = cvT row) ∨ (w = "box" ∧ a = boxT row ∧ ∀ q ∈ boxL row, Sz m q) ∨
  (w = "point" ∧ ∃ t d0, ps = [d0, sh t] ∧ Sz n t ∧ (∀ j, j < row.length → ∀ p ∈ iterR t row j, SzP 1800 p) ∧ SzP 1800 (pointR t row) ∧ a = ptT (pointR t row))
def ct_Desk_asked : Ct := fun ds A k _ => ∃ (d0 : D) (w : Str) (row : List Pt) (ps : List D) (a : Str), ds = [d0, .str w, fzs pt row, .fz ps] ∧ AskV 200 1800 row w ps a ∧ (∀ p ∈ row, SzP 200 p) ∧ 0 < row.length ∧ row.length ≤ 12 ∧ k (.str a) A
theorem ok_Desk_asked (T : Txt K mg) : Mt P w K mg base T.C_Desk "asked" 9 ct_Desk_asked := by
  refine mt_mk T.d_Desk_asked sc_Desk_asked (fun ds A k e h => ?_) fun f cdv A0 outer s H E hr hp htk ds A kk ee h => ?_
  · obtain ⟨d0, w, row, ps, a, rfl, _⟩ := h; rfl
  obtain ⟨d0, w, row, ps, a, rfl, hA, hz, h0, h12, hk⟩ := h
  rcases hA with ⟨rfl, rfl⟩ | ⟨rfl, rfl, hbz⟩ | ⟨rfl, t, d1, rfl, ht, hit, hpz, rfl⟩
  · refine as_if (bb := true) (AT.is (at_eqS (av_var (i := 1) rfl (.inl rfl) rfl) av_str) (by rfl)) (fun _ => ?_) (fun h => nomatch h)
    exact as_retv (AE.av (ae_call (ok_show_curve T) (hr.mono (by decide)) rfl (AVs.aes (avs_c (av_var (i := 2) rfl (.inl rfl) rfl) avs_nil) ⟨_, row, 200, rfl, IsL.fz, hz, by decide, by decide, by omega, ⟨rfl, Ext.refl _⟩⟩))) hk
  · refine as_if (bb := false) (AT.is (at_eqS (av_var (i := 1) rfl (.inl rfl) rfl) av_str) (by rfl)) (fun h => nomatch h) (fun _ => as_end ?_)
    refine as_if (bb := false) (AT.is (at_eqS (av_var (i := 1) rfl (.inl rfl) rfl) av_str) (by rfl)) (fun h => nomatch h) (fun _ => as_end ?_)
    refine as_if (bb := false) (AT.is (at_eqS (av_var (i := 1) rfl (.inl rfl) rfl) av_str) (by rfl)) (fun h => nomatch h) (fun _ => as_end ?_)
    have hln : ∀ x ∈ (boxL row).map shT, x.length ≤ 403 := fun x hx => by
      obtain ⟨q, hq, rfl⟩ := List.mem_map.mp hx
      have := shT_len (by decide) (hbz q hq)
      omega
    have hsm := sum_len hln
    have hbl : (boxL row).length = 4 := rfl
    rw [List.length_map] at hsm
    have hbx : ∀ i, i < 4 → (boxL row).getD i 0 ∈ boxL row := fun i hi => by
      rw [List.getD_eq_getElem?_getD, List.getElem?_eq_getElem (by rw [hbl]; exact hi)]
      exact List.getElem_mem _
    refine as_retv (av_join (ys := (boxL row).map shT) av_str (AV.is (av_lcF rfl sc_Desk_asked.nd (blkOk_by rfl) (own := [("one", 5)]) (is := [5]) (f := D.str) (F := fun i => shT ((boxL row).getD i 0)) (by decide) (ai_T (0 : Rat) (f := sh) (AE.av (ae_call (ok_box T) (hr.mono (by decide)) rfl (AVs.aes (avs_c (av_var (i := 2) rfl (.inl rfl) rfl) avs_nil) ⟨row, rfl, hz, h0, by omega, ⟨rfl, Ext.refl _⟩⟩))) ⟨rfl, rfl, (Nat.le_of_ble_eq_true rfl), (fun _ x => trivial), fun i hi => ⟨_, fun s H C cl fp => ⟨(ag_name (i := 5) sc_Desk_asked.nd rfl (.inl rfl)), fun A' x => (AE.av (ae_call (ok_show_share T) (hr.mono (by decide)) rfl (AVs.aes (avs_c (av_var (i := 5) rfl (.inl rfl) rfl) avs_nil) ⟨_, 200, rfl, hbz _ (hbx i hi), by decide, by decide, ⟨rfl, Ext.refl _⟩⟩)))⟩⟩⟩)) (show _ = D.fz (((boxL row).map shT).map D.str) from rfl)) IsL.fz (by rw [List.length_map, hbl]; have e1 : ((" " : Str)).length = 1 := rfl; rw [e1]; rw [hbl] at hsm; omega)) hk
  · refine as_if (bb := false) (AT.is (at_eqS (av_var (i := 1) rfl (.inl rfl) rfl) av_str) (by rfl)) (fun h => nomatch h) (fun _ => as_end ?_)
    refine as_if (bb := true) (AT.is (at_eqS (av_var (i := 1) rfl (.inl rfl) rfl) av_str) (by rfl)) (fun _ => ?_) (fun h => nomatch h)
    exact as_retv (AE.av (ae_call (ok_show_point T) (hr.mono (by decide)) rfl (aes_cons (ae_call (ok_point T) (hr.mono (by decide)) rfl (AVs.aes (avs_c (av_var (i := 2) rfl (.inl rfl) rfl) (avs_c (AV.is (av_ixN (f := id) D.non (AV.is (av_var (i := 3) rfl (.inl rfl) rfl) (show _ = D.fz ([d1, sh t].map id) from rfl)) av_int (n := 1) rfl (by simp)) (show _ = sh t from rfl)) avs_nil)) ⟨_, row, t, 1800, 1800, rfl, IsL.fz, h0, by omega, hit, ht, by decide, aes_nil ⟨_, 1800, rfl, hpz, by decide, by decide, ⟨rfl, Ext.refl _⟩⟩⟩))))) hk
def ct_turned : Ct := fun ds A k _ => ∃ (d_row : D) (row : List Pt), ds = [d_row] ∧ (IsL A d_row (row.map pt)) ∧ ∀ p, A p = none → k (.ref p) (aupd A p (.lst (row.reverse.map pt)))
theorem ok_turned (T : Txt K mg) : Fn P w K mg base "turned" 1 ct_turned := by
  refine fn_mk T.d_turned sc_turned (fun ds A k e h => ?_) fun f cdv A0 outer s H E hr hp htk ds A kk ee h => ?_
  · obtain ⟨d_row, row, rfl, _⟩ := h; rfl
  obtain ⟨d_row, row, rfl, hL_row, hk⟩ := h
  exact as_ret (AL.ae (al_lstRev rfl rfl T.m_list rfl T.m_reversed (av_var (i := 0) rfl (.inl rfl) rfl) (by walk_at "il")) fun p hp1 => hk p hp1)
def ct_Desk_changed (C : Addr) : Ct := fun ds A k _ => ∃ (p b : Addr) (bk : List (Str × List Pt)) (n : Str) (row : List Pt), ds = [.ref p, .str "turn", fzs pt row, .fz [.str n]] ∧ IsDesk C A p b bk ∧ bk.length ≤ 1000 ∧ 0 < row.length ∧ row.length ≤ 64 ∧ k (.str "ok") (aupd A b (dkS (bookA (putB bk n row.reverse))))
theorem ok_Desk_changed (T : Txt K mg) : Mt P w K mg base T.C_Desk "changed" 4 (ct_Desk_changed T.C_Desk) := by
  refine mt_mk T.d_Desk_changed sc_Desk_changed (fun ds A k e h => ?_) fun f cdv A0 outer s H E hr hp htk ds A kk ee h => ?_
  · obtain ⟨p, b, bk, n, row, rfl, _⟩ := h; rfl
  obtain ⟨p, b, bk, n, row, rfl, hD, hl, h0, h64, hk⟩ := h
  obtain ⟨y, h1⟩ := hD.at_
  refine as_if (bb := false) (AT.is (at_eqS (av_var (i := 1) rfl (.inl rfl) rfl) av_str) (by rfl)) (fun h => nomatch h) (fun _ => as_end ?_)
  refine as_if (bb := false) (AT.is (at_eqS (av_var (i := 1) rfl (.inl rfl) rfl) av_str) (by rfl)) (fun h => nomatch h) (fun _ => as_end ?_)
  refine as_if (bb := false) (AT.is (at_eqS (av_var (i := 1) rfl (.inl rfl) rfl) av_str) (by rfl)) (fun h => nomatch h) (fun _ => as_end ?_)
  refine as_if (bb := true) (AT.is (at_eqS (av_var (i := 1) rfl (.inl rfl) rfl) av_str) (by rfl)) (fun _ => ?_) (fun h => nomatch h)
  refine as_ret (ae_mt (ok_Desk_put T) T.l_Desk.c (hr.mono (by decide)) (av_var (i := 0) rfl (.inl rfl) rfl) h1 rfl (AVs.aes (avs_c (AV.is (av_ixN (f := id) D.non (AV.is (av_var (i := 3) rfl (.inl rfl) rfl) (show _ = D.fz ([D.str n].map id) from rfl)) av_int (n := 0) rfl (by simp)) (show _ = D.str n from rfl)) (avs_c (AV.is (AE.av (AE.frz (ae_call (ok_turned T) (hr.mono (by decide)) rfl (AVs.aes (avs_c (av_var (i := 2) rfl (.inl rfl) rfl) avs_nil) ⟨_, row, rfl, IsL.fz, fun q hq => fz_k hq ⟨rfl, Ext.refl _⟩⟩)))) (show _ = fzs pt row.reverse from rfl)) avs_nil)) ⟨p, b, bk, n, row.reverse, rfl, hD, hl, ?_⟩))
  rw [putB_A]
  exact hk
def ct__law_cell_at : Ct := fun ds A k _ => ∃ (ns : List Int) (i : Int), ds = [.cl (ns.map D.int), .int i] ∧ 0 ≤ i ∧ k (.int (cellM ns i)) A
theorem ok__law_cell_at (T : Txt K mg) : Fn P w K mg base "_law_cell_at" 1 ct__law_cell_at := by
  refine fn_mk T.d__law_cell_at sc__law_cell_at (fun ds A k e h => ?_) fun f cdv A0 outer s H E hr hp htk ds A kk ee h => ?_
  · obtain ⟨ns, i, rfl, _⟩ := h; rfl
  obtain ⟨ns, i, rfl, h0, hk⟩ := h
  refine as_if (at_lt (av_var (i := 1) rfl (.inl rfl) rfl) (av_lenL rfl T.m_len (av_var (i := 0) rfl (.inl rfl) rfl) IsL.cl)) (fun hb => ?_) (fun hb => ?_)
  · have hlt : i < ((ns.map D.int).length : Nat) := of_decide_eq_true hb
    rw [List.length_map] at hlt
    exact as_retv (av_ixL (av_var (i := 0) rfl (.inl rfl) rfl) (av_var (i := 1) rfl (.inl rfl) rfl) IsL.cl (atZ h0 hlt)) hk
  · refine as_end ?_
    have hlt : ¬ i < ((ns.map D.int).length : Nat) := of_decide_eq_false hb
    rw [List.length_map] at hlt
    have e : cellM ns i = 0 := by
      unfold cellM
      rw [List.getD_eq_getElem?_getD, List.getElem?_eq_none (by omega)]
      rfl
    rw [e] at hk
    exact as_retv av_int hk
def ct__law_stream : Ct := fun ds A k _ => ∃ (c : Int) (m : Nat), ds = [.int c, .int (m : Int)] ∧ m ≤ 60 ∧ k (.fz (((List.range m).map (stC c)).map D.int)) A
theorem ok__law_stream (T : Txt K mg) : Fn P w K mg base "_law_stream" 1 ct__law_stream := by
  refine fn_mk T.d__law_stream sc__law_stream (fun ds A k e h => ?_) fun f cdv A0 outer s H E hr hp htk ds A kk ee h => ?_
  · obtain ⟨c, m, rfl, _⟩ := h; rfl
  obtain ⟨c, m, rfl, hm, hk⟩ := h
  refine as_setv (f := D.int) (i := 2) sc__law_stream.nd rfl (.inl rfl) (av_add av_int (av_mod (av_var (i := 0) rfl (.inl rfl) rfl) av_int (by walk_at "sz"))) fun v0 hv0 => ?_
  refine as_set (i := 3) sc__law_stream.nd rfl (.inl rfl) (AL.ae (al_lst (ds := []) avs_nil) fun q hq => ?_)
  refine as_cons (a1_for hp rfl (ai_rng rfl T.m_range (av_add (av_var (i := 1) rfl (.inl rfl) rfl) av_int) (by walk_at "om") (by walk_at "om") ⟨fun i ρ A' => ∃ (y : Option D) (v : Int), ρ = [some (.int c), some (.int (m : Int)), some (.int v), some (.ref q), y] ∧ A' = aupd A q (.lst (((List.range i).map fun k => itC v0 (k + 1)).map D.int)) ∧ (v = itC v0 i), ⟨_, v0, rfl, rfl, rfl⟩, fun i ρ A' hle hI => trivial, fun i ρ A' hi hI => ⟨_, _, (ag_name (i := 4) sc__law_stream.nd rfl (.inl rfl)), ?_⟩, fun ρ A' hI => ?_⟩))
  · skip
    obtain ⟨y, v, rfl, rfl, hv⟩ := hI
    have hi' : i < m + 2 := by omega
    refine as_set (i := 2) sc__law_stream.nd rfl (.inl rfl) (AV.ae (av_mod (av_mulS (av_var (i := 2) rfl (.inl rfl) rfl) av_int (.inr (by decide))) av_int (by walk_at "sz")) ?_)
    rw [hv]
    refine as_cons (a1_expr (ae_append (AV.ae (av_var (i := 3) rfl (.inl rfl) rfl) ⟨_, rfl, ⟨_, aupd_same⟩, AV.ae (av_var (i := 2) rfl (.inl rfl) rfl) ⟨_, aupd_same, (by simp only [List.length_map, List.length_range]; exact small1000 (by omega)), ?_⟩⟩)))
    refine as_nil ⟨_, (itC v0 (i + 1)), rfl, ?hp2, rfl⟩
    rw [aupd_aupd, map_snoc, List.range_succ, List.map_append (f := fun k => itC v0 (k + 1))]
    rfl
  obtain ⟨y, v, rfl, rfl, hv⟩ := hI
  rw [show ((m : Int) + 2).toNat = m + 2 by omega]
  refine as_fz 3 rfl hq ?_
  refine as_retv (av_slF (av_var (i := 3) rfl (.inl rfl) rfl) IsL.fz (lo' := (some ((2 : Nat) : Int))) (hi' := none) av_int trivial) ?_
  have e : ((List.range (m + 2)).map fun k => itC v0 (k + 1)).drop 2 = (List.range m).map (stC c) := by
    refine List.ext_getElem (by simp) fun k h1 h2 => ?_
    simp only [List.getElem_drop, List.getElem_map, List.getElem_range]
    unfold stC
    rw [hv0, show 2 + k + 1 = k + 3 by omega]
  rw [cutL_drop, e]
  exact hk
def strL (l : List Nat) : Str := ⟨l.toArray⟩
theorem tl_strL (l : List Nat) : TL.tl (strL l) = l := rfl
theorem len_strL (l : List Nat) : (strL l).length = l.length := TL.len_tl _
theorem strL_tl (x : Str) : strL (TL.tl x) = x := TL.ext_tl rfl
theorem strL_snoc (l : List Nat) (c : Nat) : strL l ++ (⟨#[c]⟩ : Str) = strL (l ++ [c]) := TL.ext_tl (by rw [TL.tl_append]; rfl)
theorem joinL_nil : ∀ xs : List (List Nat), TL.joinL [] xs = xs.flatten
  | [] => rfl
  | [x] => by simp [TL.joinL]
  | x :: y :: r => by
    have ih := joinL_nil (y :: r)
    simp only [TL.joinL] at ih ⊢
    simp [ih]
theorem tl_cutT (x : Str) (n : Nat) : TL.tl (cutS x none (some (n : Int))) = (TL.tl x).take n := by
  show ((x.cps.toList.drop (HT.sIx x.length 0 none)).take (HT.sIx x.length x.length (some (n : Int)) - HT.sIx x.length 0 none)) = _
  have hl := TL.len_tl x
  rw [HT.sIx_nat, HT.sIx_none]
  show ((TL.tl x).drop 0).take (min n x.length - 0) = _
  rw [hl, List.drop_zero, Nat.sub_zero]
  by_cases h : n ≤ (TL.tl x).length
  · rw [Nat.min_eq_left h]
  · rw [Nat.min_eq_right (by omega), List.take_length, List.take_of_length_le (by omega)]
def sizC (c : Int) : Int := 1 + stC c 0 % 12
def atC (c : Int) : Int := stC c 1 % sizC c
def nmW (c : Int) : List Nat := (List.range 12).map fun j => 97 + (stC c (2 + j) % 26).toNat
def nmA (c : Int) (m k : Nat) : List Nat := (nmW c).take (k + 1 + (stC c 0 % (13 - (m : Int))).toNat)
def gB (c : Int) (k j : Nat) : Nat := 97 + ((stC c (2 + j) + if (j : Int) = atC c then (k : Int) else 0) % 26).toNat
def nmB (c : Int) (k : Nat) : List Nat := (List.range (sizC c).toNat).map (gB c k)
def nmOf (c : Int) (m k : Nat) : List Nat := if stC c 14 % 3 = 1 then nmA c m k else nmB c k
def namesC (c : Int) (m : Nat) : List Str := (List.range m).map fun k => strL (nmOf c m k)
theorem sizC_bd (c : Int) : 1 ≤ sizC c ∧ sizC c ≤ 12 := by unfold sizC; omega
theorem atC_bd (c : Int) : 0 ≤ atC c ∧ atC c < sizC c := by
  have := sizC_bd c
  exact ⟨Int.emod_nonneg _ (by omega), Int.emod_lt_of_pos _ (by omega)⟩
theorem namesC_len (c : Int) (m : Nat) : (namesC c m).length = m := by unfold namesC; simp
theorem nmOf_ok {c : Int} {m k : Nat} (hm : m ≤ 12) (hk : k < m) : NameL (nmOf c m k) := by
  unfold nmOf
  split
  · have h1 : 0 ≤ stC c 0 % (13 - (m : Int)) ∧ stC c 0 % (13 - (m : Int)) < 13 - (m : Int) := ⟨Int.emod_nonneg _ (by omega), Int.emod_lt_of_pos _ (by omega)⟩
    have hl : (nmA c m k).length = k + 1 + (stC c 0 % (13 - (m : Int))).toNat := by
      unfold nmA nmW
      rw [List.length_take, List.length_map, List.length_range]
      omega
    refine ⟨by omega, by omega, fun x hx => ?_⟩
    obtain ⟨j, _, rfl⟩ := List.mem_map.mp (List.mem_of_mem_take hx)
    omega
  · have h1 := sizC_bd c
    have hl : (nmB c k).length = (sizC c).toNat := by unfold nmB; simp
    refine ⟨by omega, by omega, fun x hx => ?_⟩
    obtain ⟨j, _, rfl⟩ := List.mem_map.mp hx
    unfold gB
    omega
theorem nmOf_inj {c : Int} {m k l : Nat} (hm : m ≤ 12) (hk : k < m) (hl : l < m) (e : nmOf c m k = nmOf c m l) : k = l := by
  unfold nmOf at e
  split at e
  · have h1 : 0 ≤ stC c 0 % (13 - (m : Int)) ∧ stC c 0 % (13 - (m : Int)) < 13 - (m : Int) := ⟨Int.emod_nonneg _ (by omega), Int.emod_lt_of_pos _ (by omega)⟩
    have e := congrArg List.length e
    unfold nmA nmW at e
    rw [List.length_take, List.length_take, List.length_map, List.length_range] at e
    omega
  · have h1 := sizC_bd c
    have h2 := atC_bd c
    have hj : (atC c).toNat < (sizC c).toNat := by omega
    have e : (nmB c k).getD (atC c).toNat 0 = (nmB c l).getD (atC c).toNat 0 := by rw [e]
    unfold nmB at e
    rw [List.getD_eq_getElem?_getD, List.getElem?_map, List.getElem?_range hj, List.getD_eq_getElem?_getD, List.getElem?_map, List.getElem?_range hj] at e
    have e : gB c k (atC c).toNat = gB c l (atC c).toNat := e
    unfold gB at e
    rw [if_pos (by omega), if_pos (by omega)] at e
    omega
theorem namesC_name {c : Int} {m : Nat} (hm : m ≤ 12) : ∀ x ∈ namesC c m, NameL (TL.tl x) := fun x hx => by
  obtain ⟨k, hk, rfl⟩ := List.mem_map.mp hx
  rw [tl_strL]
  exact nmOf_ok hm (List.mem_range.mp hk)
theorem namesC_nodup {c : Int} {m : Nat} (hm : m ≤ 12) : (namesC c m).Nodup := by
  unfold namesC List.Nodup
  rw [List.pairwise_map]
  refine List.Pairwise.imp_of_mem ?_ List.pairwise_lt_range
  intro a b ha hb hab e
  have e2 := congrArg TL.tl e
  rw [tl_strL, tl_strL] at e2
  have := nmOf_inj hm (List.mem_range.mp ha) (List.mem_range.mp hb) e2
  omega
theorem letter_ix : ∀ n : Nat, n < 26 → (("abcdefghijklmnopqrstuvwxyz" : Str)).cps[n]? = some (97 + n) := by decide
theorem letter_iz {z : Int} (h0 : 0 ≤ z) (h1 : z < 26) : (("abcdefghijklmnopqrstuvwxyz" : Str)).cps[z.toNat]? = some (97 + z.toNat) := letter_ix _ (by omega)
theorem row15 (c : Int) {i : Nat} (h : i < 15) : ((List.range 15).map (stC c)).getD i 0 = stC c i := by
  rw [List.getD_eq_getElem?_getD, List.getElem?_map, List.getElem?_range h]; rfl
theorem join_word (c : Int) : Str.join "" ((List.range 12).map fun j => (⟨#[97 + (stC c (2 + j) % 26).toNat]⟩ : Str)) = strL (nmW c) := TL.ext_tl (by
  rw [TL.tl_join, tl_strL]
  have e : TL.tl ("" : Str) = [] := rfl
  rw [e, joinL_nil, List.map_map]
  rfl)
def ct__law_names : Ct := fun ds A k _ => ∃ (c : Int) (m : Nat), ds = [.int c, .int (m : Int)] ∧ m ≤ 12 ∧ ∀ p, A p = none → k (.ref p) (aupd A p (.lst ((namesC c m).map D.str)))
theorem ok__law_names (T : Txt K mg) : Fn P w K mg base "_law_names" 2 ct__law_names := by
  refine fn_mk T.d__law_names sc__law_names (fun ds A k e h => ?_) fun f cdv A0 outer s H E hr hp htk ds A kk ee h => ?_
  · obtain ⟨c, m, rfl, _⟩ := h; rfl
  obtain ⟨c, m, rfl, hm, hk⟩ := h
  have hs := sizC_bd c
  have ha := atC_bd c
  have h13 : 0 ≤ stC c 0 % (13 - (m : Int)) ∧ stC c 0 % (13 - (m : Int)) < 13 - (m : Int) := ⟨Int.emod_nonneg _ (by omega), Int.emod_lt_of_pos _ (by omega)⟩
  refine as_set (i := 2) sc__law_names.nd rfl (.inr rfl) (AV.ae av_str ?_)
  refine as_set (i := 3) sc__law_names.nd rfl (.inr rfl) (AV.ae (AE.av (ae_call (ok__law_stream T) (hr.mono (by decide)) rfl (AVs.aes (avs_c (av_var (i := 0) rfl (.inl rfl) rfl) (avs_c av_int avs_nil)) ⟨_, 15, rfl, by decide, ⟨rfl, Ext.refl _⟩⟩))) ?_)
  refine as_set (i := 4) sc__law_names.nd rfl (.inl rfl) (AV.ae (AV.is (av_add av_int (av_mod (av_ixDN (f := D.int) (0 : Int) (av_var (i := 3) rfl (.inr (.inl rfl)) rfl) IsL.fz av_int (n := 0) rfl (by simp)) av_int (by decide))) (show _ = D.int (sizC c) from rfl)) ?_)
  refine as_set (i := 5) sc__law_names.nd rfl (.inl rfl) (AV.ae (AV.is (av_mod (av_ixDN (f := D.int) (0 : Int) (av_var (i := 3) rfl (.inr (.inl rfl)) rfl) IsL.fz av_int (n := 1) rfl (by simp)) (av_var (i := 4) rfl (.inl rfl) rfl) (by omega)) (show _ = D.int (atC c) from rfl)) ?_)
  refine AS.ro (ρ' := [some (.int c), some (.int (m : Int)), some (.str "abcdefghijklmnopqrstuvwxyz"), some (.fz (((List.range 15).map (stC c)).map D.int)), some (.int (sizC c)), some (.int (atC c)), none, none, none, none, none, none]) ?_
  refine as_if (at_eq (av_mod (av_ixDN (f := D.int) (0 : Int) (av_var (i := 3) rfl (.inr (.inl rfl)) rfl) IsL.fz av_int (n := 14) rfl (by simp)) av_int (by decide)) av_int) (fun hb => ?_) (fun hb => as_end ?_)
  · have hb : stC c 14 % 3 = 1 := of_decide_eq_true hb
    have hj12 : (((List.range 12).map fun j => (⟨#[97 + (stC c (2 + j) % 26).toNat]⟩ : Str)).map (·.length)).sum ≤ 12 * 1 := by
      have := sum_len (xs := (List.range 12).map fun j => (⟨#[97 + (stC c (2 + j) % 26).toNat]⟩ : Str)) (b := 1) fun x hx => by
        obtain ⟨j, _, rfl⟩ := List.mem_map.mp hx
        exact Nat.le_refl _
      simpa using this
    refine as_set (i := 6) sc__law_names.nd rfl (.inr rfl) (AV.ae (AV.is (av_join (ys := (List.range 12).map fun j => (⟨#[97 + (stC c (2 + j) % 26).toNat]⟩ : Str)) av_str (av_lcF rfl sc__law_names.nd (blkOk_by rfl) (own := [("_law_j", 10)]) (is := [10]) (f := D.str) (F := fun j => (⟨#[97 + (stC c (2 + j) % 26).toNat]⟩ : Str)) (by decide) (ai_rng rfl T.m_range av_int (by decide) (by decide) ⟨rfl, rfl, (Nat.le_of_ble_eq_true rfl), (fun _ x => trivial), fun j hj => ⟨_, fun s H C cl fp => ⟨(ag_name (i := 10) sc__law_names.nd rfl (.inl rfl)), fun A' x => by have hj : j < 12 := hj; exact (av_ixS (av_var (i := 2) rfl (.inr (.inl rfl)) rfl) (AV.is (av_mod (av_ixDN (f := D.int) (0 : Int) (av_var (i := 3) rfl (.inr (.inl rfl)) rfl) IsL.fz (av_add av_int (av_var (i := 10) rfl (.inl rfl) rfl)) (n := 2 + j) (by omega) (by simp; omega)) av_int (by decide)) (show _ = D.int (stC c (2 + j) % 26) by rw [row15 c (by omega)])) (Int.emod_nonneg _ (by decide)) (Int.lt_trans (Int.emod_lt_of_pos _ (by decide)) (by decide)) (letter_iz (Int.emod_nonneg _ (by decide)) (Int.emod_lt_of_pos _ (by decide))))⟩⟩⟩)) IsL.fz (by rw [List.length_map, List.length_range]; exact Nat.le_trans (Nat.add_le_add_right hj12 _) (by decide))) (show _ = D.str (strL (nmW c)) by rw [join_word])) ?_)
    refine AS.ro (ρ' := [some (.int c), some (.int (m : Int)), some (.str "abcdefghijklmnopqrstuvwxyz"), some (.fz (((List.range 15).map (stC c)).map D.int)), some (.int (sizC c)), some (.int (atC c)), some (.str (strL (nmW c))), none, none, none, none, none]) ?_
    refine as_ret (AL.ae (al_lcF rfl sc__law_names.nd (blkOk_by rfl) (own := [("_law_k", 8)]) (is := [8]) (f := D.str) (F := fun i => strL (nmA c m i)) (by decide) (ai_rng rfl T.m_range (av_var (i := 1) rfl (.inr (.inl rfl)) rfl) (by omega) (by omega) ⟨rfl, rfl, (Nat.le_of_lt (small1000 (by omega))), (fun _ x => trivial), fun i hi => ⟨_, fun s H C cl fp => ⟨(ag_name (i := 8) sc__law_names.nd rfl (.inl rfl)), fun A' x => by have hi : i < m := hi; exact (AV.is (av_slS (av_var (i := 6) rfl (.inr (.inl rfl)) rfl) (by rw [len_strL]; unfold nmW; rw [List.length_map, List.length_range]; exact Nat.le_of_ble_eq_true rfl) (lo' := none) (hi' := some ((i + 1 + (stC c 0 % (13 - (m : Int))).toNat : Nat) : Int)) trivial (AV.is (av_add (av_add (av_var (i := 8) rfl (.inl rfl) rfl) av_int) (av_mod (av_ixDN (f := D.int) (0 : Int) (av_var (i := 3) rfl (.inr (.inl rfl)) rfl) IsL.fz av_int (n := 0) rfl (by simp)) (av_sub av_int (av_var (i := 1) rfl (.inr (.inl rfl)) rfl)) (by omega))) (show D.int ((i : Int) + 1 + stC c 0 % (13 - (m : Int))) = _ by congr 1; omega))) (show _ = D.str (strL (nmA c m i)) by congr 1; exact TL.ext_tl (by rw [tl_cutT, tl_strL, tl_strL]; rfl)))⟩⟩⟩)) fun p hq => ?_)
    have e : namesC c m = (List.range m).map fun i => strL (nmA c m i) := List.map_congr_left fun i _ => by unfold nmOf; rw [if_pos hb]
    rw [e] at hk
    exact hk p hq
  have hb : ¬ stC c 14 % 3 = 1 := of_decide_eq_false hb
  refine as_set (i := 7) sc__law_names.nd rfl (.inl rfl) (AL.ae (al_lst (ds := ([] : List Str).map D.str) avs_nil) fun p hq => ?_)
  refine AS.ro (ρ' := [some (.int c), some (.int (m : Int)), some (.str "abcdefghijklmnopqrstuvwxyz"), some (.fz (((List.range 15).map (stC c)).map D.int)), some (.int (sizC c)), some (.int (atC c)), none, some (.ref p), none, none, none, none]) ?_
  refine as_cons (a1_for hp rfl (ai_rng rfl T.m_range (av_var (i := 1) rfl (.inr (.inl rfl)) rfl) (by omega) (by omega) ⟨fun i ρ A' => ∃ (y8 y9 y10 y11 : Option D), ρ = [some (.int c), some (.int (m : Int)), some (.str "abcdefghijklmnopqrstuvwxyz"), some (.fz (((List.range 15).map (stC c)).map D.int)), some (.int (sizC c)), some (.int (atC c)), none, some (.ref p), y8, y9, y10, y11] ∧ A' = aupd A p (.lst (((List.range i).map fun k => strL (nmB c k)).map D.str)), ⟨_, _, _, _, rfl, rfl⟩, fun i ρ A' hle hI => trivial, fun i ρ A' hi hI => ⟨_, _, (ag_name (i := 8) sc__law_names.nd rfl (.inl rfl)), ?_⟩, fun ρ A' hI => ?_⟩))
  · skip
    obtain ⟨y8, y9, y10, y11, rfl, rfl⟩ := hI
    have hi : i < m := hi
    refine AS.ro (ρ' := [some (.int c), some (.int (m : Int)), some (.str "abcdefghijklmnopqrstuvwxyz"), some (.fz (((List.range 15).map (stC c)).map D.int)), some (.int (sizC c)), some (.int (atC c)), none, some (.ref p), some (.int (i : Int)), y9, y10, y11]) ?_
    refine as_set (i := 9) sc__law_names.nd rfl (.inl rfl) (AV.ae (AV.is av_str (show _ = D.str (strL ((List.range 0).map (gB c i))) from rfl)) ?_)
    refine AS.ro (ρ' := [some (.int c), some (.int (m : Int)), some (.str "abcdefghijklmnopqrstuvwxyz"), some (.fz (((List.range 15).map (stC c)).map D.int)), some (.int (sizC c)), some (.int (atC c)), none, some (.ref p), some (.int (i : Int)), some (.str (strL ((List.range 0).map (gB c i)))), y10, y11]) ?_
    refine as_cons (a1_for hp rfl (ai_rng rfl T.m_range (av_var (i := 4) rfl (.inl rfl) rfl) (by omega) (by omega) ⟨fun j ρ A' => ∃ (y10 y11 : Option D), ρ = [some (.int c), some (.int (m : Int)), some (.str "abcdefghijklmnopqrstuvwxyz"), some (.fz (((List.range 15).map (stC c)).map D.int)), some (.int (sizC c)), some (.int (atC c)), none, some (.ref p), some (.int (i : Int)), some (.str (strL ((List.range j).map (gB c i)))), y10, y11] ∧ A' = aupd A p (.lst (((List.range i).map fun k => strL (nmB c k)).map D.str)), ⟨_, _, rfl, rfl⟩, fun j ρ A' hle hI => trivial, fun j ρ A' hj hI => ⟨_, _, (ag_name (i := 10) sc__law_names.nd rfl (.inl rfl)), ?_⟩, fun ρ A' hI => ?_⟩))
    · skip
      obtain ⟨y10, y11, rfl, rfl⟩ := hI
      have hj2 : (j : Int) < sizC c := by omega
      refine AS.ro (ρ' := [some (.int c), some (.int (m : Int)), some (.str "abcdefghijklmnopqrstuvwxyz"), some (.fz (((List.range 15).map (stC c)).map D.int)), some (.int (sizC c)), some (.int (atC c)), none, some (.ref p), some (.int (i : Int)), some (.str (strL ((List.range j).map (gB c i)))), some (.int (j : Int)), y11]) ?_
      refine as_set (i := 11) sc__law_names.nd rfl (.inl rfl) (AV.ae (AV.is (av_ixDN (f := D.int) (0 : Int) (av_var (i := 3) rfl (.inr (.inl rfl)) rfl) IsL.fz (av_add av_int (av_var (i := 10) rfl (.inl rfl) rfl)) (n := 2 + j) (by omega) (by simp; omega)) (show _ = D.int (stC c (2 + j)) by rw [row15 c (by omega)])) ?_)
      refine AS.ro (ρ' := [some (.int c), some (.int (m : Int)), some (.str "abcdefghijklmnopqrstuvwxyz"), some (.fz (((List.range 15).map (stC c)).map D.int)), some (.int (sizC c)), some (.int (atC c)), none, some (.ref p), some (.int (i : Int)), some (.str (strL ((List.range j).map (gB c i)))), some (.int (j : Int)), some (.int (stC c (2 + j)))]) ?_
      refine as_if1 (f := D.int) (fun y : Int => y = stC c (2 + j) + if (j : Int) = atC c then (i : Int) else 0) 11 (at_eq (av_var (i := 10) rfl (.inl rfl) rfl) (av_var (i := 5) rfl (.inl rfl) rfl)) (fun hb1 => ?_) (fun hb1 => ?_) fun y hy => ?_
      · exact as_cons (a1_set (i := 11) sc__law_names.nd rfl (.inl rfl) (AV.ae (av_add (av_var (i := 11) rfl (.inl rfl) rfl) (av_var (i := 8) rfl (.inl rfl) rfl)) (as_nil ⟨_, by rw [if_pos (of_decide_eq_true hb1)], rfl, rfl⟩)))
      · exact as_nil ⟨_, by rw [if_neg (of_decide_eq_false hb1)], by rw [Int.add_zero]; rfl, rfl⟩
      refine AS.ro (ρ' := [some (.int c), some (.int (m : Int)), some (.str "abcdefghijklmnopqrstuvwxyz"), some (.fz (((List.range 15).map (stC c)).map D.int)), some (.int (sizC c)), some (.int (atC c)), none, some (.ref p), some (.int (i : Int)), some (.str (strL ((List.range j).map (gB c i)))), some (.int (j : Int)), some (.int y)]) ?_
      refine as_set (i := 9) sc__law_names.nd rfl (.inl rfl) (AV.ae (AV.is (av_catS (av_var (i := 9) rfl (.inl rfl) rfl) (av_ixS (av_var (i := 2) rfl (.inr (.inl rfl)) rfl) (AV.is (av_mod (av_var (i := 11) rfl (.inl rfl) rfl) av_int (by decide)) (show _ = D.int (y % 26) from rfl)) (Int.emod_nonneg _ (by decide)) (Int.lt_trans (Int.emod_lt_of_pos _ (by decide)) (by decide)) (letter_iz (Int.emod_nonneg _ (by decide)) (Int.emod_lt_of_pos _ (by decide)))) (by rw [len_strL, List.length_map, List.length_range]; exact Nat.le_of_lt (small1000 (by show j + 1 ≤ 1000; omega)))) (show _ = D.str (strL ((List.range (j + 1)).map (gB c i))) by rw [strL_snoc, List.range_succ, List.map_append, hy]; rfl)) ?_)
      exact as_nil ⟨_, _, rfl, rfl⟩
    obtain ⟨y10, y11, rfl, rfl⟩ := hI
    refine as_cons (a1_expr (ae_append (AV.ae (av_var (i := 7) rfl (.inl rfl) rfl) ⟨_, rfl, ⟨_, aupd_same⟩, AV.ae (av_var (i := 9) rfl (.inl rfl) rfl) ⟨_, aupd_same, (by rw [List.length_map, List.length_map, List.length_range]; exact small1000 (by omega)), ?_⟩⟩)))
    exact as_nil ⟨_, _, _, _, rfl, by rw [aupd_aupd, map_snoc, List.range_succ (n := i), List.map_append (f := fun k => strL (nmB c k))]; rfl⟩
  obtain ⟨y8, y9, y10, y11, rfl, rfl⟩ := hI
  have e : namesC c m = (List.range m).map fun i => strL (nmB c i) := List.map_congr_left fun i _ => by unfold nmOf; rw [if_neg hb]
  rw [e] at hk
  exact as_ret (AV.ae (av_var (i := 7) rfl (.inl rfl) rfl) (hk p hq))
theorem ratE_ {p q : Rat} (h1 : p.num = q.num) (h2 : (p.den : Int) = (q.den : Int)) : p = q := rat_ext h1 (by omega)
theorem sh_inj {p q : Rat} (h : sh p = sh q) : p = q := by
  have h : D.tup [.int p.num, .int (p.den : Int)] = D.tup [.int q.num, .int (q.den : Int)] := h
  injection h with h
  injection h with h1 h
  injection h with h2 _
  injection h1 with h1
  injection h2 with h2
  exact ratE_ h1 h2
theorem pt_inj {p q : Pt} (h : pt p = pt q) : p = q := by
  have h : D.tup [sh p.1, sh p.2] = D.tup [sh q.1, sh q.2] := h
  injection h with h
  injection h with h1 h
  injection h with h2 _
  exact Prod.ext (sh_inj h1) (sh_inj h2)
theorem pt_map_inj : ∀ {xs ys : List Pt}, xs.map pt = ys.map pt → xs = ys
  | [], [], _ => rfl
  | [], _ :: _, h => nomatch h
  | _ :: _, [], h => nomatch h
  | x :: xs, y :: ys, h => by
    rw [List.map_cons, List.map_cons] at h
    injection h with h1 h2
    rw [pt_inj h1, pt_map_inj h2]
theorem split_ws {ws : List Str} (h : ws ≠ []) (hf : ∀ x ∈ ws, 32 ∉ TL.tl x) : Txt.split (Str.join " " ws) " " = ws := by
  rw [← TL.join_eq]
  exact TL.split_join (y := " ") (s := 32) (S := []) rfl (all256 (l := [32]) rfl rfl) h hf
theorem name_free {n : Str} (h : NameL (TL.tl n)) : 32 ∉ TL.tl n := fun h9 => by
  have := h.2.2 _ h9
  omega
theorem name_len {n : Str} (h : NameL (TL.tl n)) : n.length ≤ 12 := by rw [TL.len_tl]; exact h.2.1
theorem shT_free (q : Rat) : 32 ∉ TL.tl (shT q) := by
  rw [tl_shT]
  exact shl_free (by decide) (by decide) (by decide)
theorem ptT_free (p : Pt) : 32 ∉ TL.tl (ptT p) := by
  rw [tl_ptT]
  exact ptl_free (by decide) (by decide) (by decide) (by decide)
theorem word_n {n : Str} (h : NameL (TL.tl n)) : WordV 110 n (.str n) := by
  unfold WordV
  rw [if_neg (by decide), if_neg (by decide)]
  exact ⟨h, rfl⟩
theorem word_w {n : Str} (h : NameL (TL.tl n)) : WordV 119 n (.str n) := by
  unfold WordV
  rw [if_neg (by decide), if_neg (by decide)]
  exact ⟨h, rfl⟩
theorem word_s {q : Rat} (h : Fg q) : WordV 115 (shT q) (sh q) := by
  unfold WordV
  rw [if_pos rfl]
  exact ⟨q, by rw [tl_shT]; exact rd_shl h, rfl⟩
theorem RowV_mk {w sh : Str} {ws : List Str} {ps : List D} (hsh : lkT kvs_SHAPES w = some sh) (hl : sh.cps.size = ws.length) (hp : ps.length = ws.length) (hw : ∀ i, i < ws.length → WordV (sh.cps.getD i 0) (ws.getD i default) (ps.getD i .non)) : RowV (w :: ws) (.tup [.str w, .fz ps]) := by
  have hc : w ≠ "curve" := fun e => by rw [e] at hsh; cases hsh
  refine .inr ⟨fun h => hc h.1, sh, hsh, by rw [hl]; rfl, fun i hi => ⟨_, hw i (by omega)⟩, ?_⟩
  congr 1
  congr 1
  congr 1
  congr 1
  refine List.ext_getElem? fun i => ?_
  by_cases hi : i < ws.length
  · rw [List.getElem?_map, List.getElem?_range (by omega), List.getElem?_eq_getElem (by omega)]
    have h1 := hw i hi
    rw [List.getD_eq_getElem?_getD (l := ps), List.getElem?_eq_getElem (by omega), Option.getD_some] at h1
    have h2 := wdOf_ok ⟨_, h1⟩
    rw [WordV_one h1 h2]
    rfl
  · rw [List.getElem?_eq_none (by omega), List.getElem?_eq_none (by rw [List.length_map, List.length_range]; omega)]
theorem RowV_curve {n : Str} {row : List Pt} (hn : NameL (TL.tl n)) (h0 : 0 < row.length) (h1 : row.length ≤ 12) (h : ∀ p ∈ row, FgP p) : RowV ("curve" :: n :: row.map ptT) (.tup [.str "curve", .fz [.str n, fzs pt row]]) :=
  .inl ⟨rfl, by rw [List.length_cons, List.length_cons, List.length_map]; omega, row, hn, rdC_cv h0 h1 h, rfl⟩
theorem RowV_n {w n : Str} (hsh : lkT kvs_SHAPES w = some "n") (hn : NameL (TL.tl n)) : RowV [w, n] (.tup [.str w, .fz [.str n]]) :=
  RowV_mk hsh rfl rfl fun i hi => match i, hi with
    | 0, _ => word_n hn
theorem RowV_ns {w n : Str} {q : Rat} (hsh : lkT kvs_SHAPES w = some "ns") (hn : NameL (TL.tl n)) (hq : Fg q) : RowV [w, n, shT q] (.tup [.str w, .fz [.str n, sh q]]) :=
  RowV_mk hsh rfl rfl fun i hi => match i, hi with
    | 0, _ => word_n hn
    | 1, _ => word_s hq
theorem RowV_0 {w : Str} (hsh : lkT kvs_SHAPES w = some "") : RowV [w] (.tup [.str w, .fz []]) :=
  RowV_mk hsh rfl rfl fun i hi => absurd hi (Nat.not_lt_zero _)
theorem knw_n {bk : List (Str × List Pt)} {n : Str} {row : List Pt} (h : lkB bk n = some row) : Knw bk "n" [.str n] := fun i hi _ => match i, hi with
  | 0, _ => ⟨n, row, rfl, h⟩
theorem knw_ns {bk : List (Str × List Pt)} {n : Str} {d : D} {row : List Pt} (h : lkB bk n = some row) : Knw bk "ns" [.str n, d] := fun i hi h9 => match i, hi with
  | 0, _ => ⟨n, row, rfl, h⟩
  | 1, _ => absurd h9 (by decide)
theorem join2 (w n : Str) : w ++ " " ++ n = Str.join " " [w, n] := TL.ext_tl (by rw [TL.tl_join, TL.tl_append, TL.tl_append]; simp [TL.joinL])
/-- say, of a row that is read -/
theorem say_of {C N M : Addr} {cC cA cH : Ct} {A : AH} {p b : Addr} {bk : List (Str × List Pt)} {x w : Str} {ps : List D} {k : AK} {e : Value → AH → Prop} (hl : x.length ≤ 200000) (hD : IsDesk C A p b bk) (hb : bk.length < 64) (hn : ∀ q ∈ bk, q.1.length ≤ 1000) (hR : RowV (Txt.split x " ") (.tup [.str w, .fz ps])) (h : SayK M cC cA cH A p b bk w ps k e) :
    ct_say C N M cC cA cH [.ref p, .str x] A k e :=
  ⟨p, b, bk, x, rfl, hl, hD, hb, hn, fun no => absurd hR (no _), fun w' ps' h' => by
    have e9 := RowV_one hR h'
    injection e9 with e9
    injection e9 with e1 e2
    injection e2 with e2 _
    injection e1 with e1
    injection e2 with e2
    subst e1
    subst e2
    exact h⟩
theorem SayK_curve {M : Addr} {cC cA cH : Ct} {A : AH} {p b : Addr} {bk : List (Str × List Pt)} {n : Str} {row : List Pt} {k : AK} {e : Value → AH → Prop} (h : k (.str "ok") (aupd A b (dkS (bookA (putB bk n row))))) : SayK M cC cA cH A p b bk "curve" [.str n, fzs pt row] k e :=
  ⟨fun _ n' row' e9 => by
    injection e9 with e1 e9
    injection e1 with e1
    injection e9 with e2 _
    have e3 : row.map pt = row'.map pt := by injection e2
    have e4 := pt_map_inj e3
    rw [← e1, ← e4]
    exact h, fun e9 => absurd e9 (by decide), fun h9 => absurd rfl h9⟩
theorem SayK_names {M : Addr} {cC cA cH : Ct} {A : AH} {p b : Addr} {bk : List (Str × List Pt)} {k : AK} {e : Value → AH → Prop} (h : k (.str (if bk.isEmpty then "none" else Str.join " " (srtN (bk.map (·.1))))) A) : SayK M cC cA cH A p b bk "names" [] k e :=
  ⟨fun e9 => absurd e9 (by decide), fun _ => h, fun _ h9 => absurd rfl h9⟩
/-- the words about one curve -/
theorem SayK_A {M : Addr} {cC cA cH : Ct} {A : AH} {p b : Addr} {bk : List (Str × List Pt)} {w sh n : Str} {ps : List D} {row : List Pt} {k : AK} {e : Value → AH → Prop} (hw : w ∈ wA) (hsh : lkT kvs_SHAPES w = some sh) (hk : Knw bk sh ps) (h0 : ps.getD 0 .non = .str n) (hr : lkB bk n = some row) (h : cA [.ref p, .str w, fzs pt row, .fz ps] A k e) : SayK M cC cA cH A p b bk w ps k e := by
  have hall : ∀ w ∈ wA, w ≠ "curve" ∧ w ≠ "names" ∧ w ∉ w4 := by decide
  obtain ⟨h1, h2, h3⟩ := hall w hw
  refine ⟨fun e9 => absurd e9 h1, fun e9 => absurd e9 h2, fun _ _ sh' hsh' => ?_⟩
  rw [hsh] at hsh'
  cases hsh'
  refine ⟨fun no => absurd hk no, fun _ n' row' h0' hr' => ⟨fun h9 => absurd h9 h3, fun _ => ?_, fun _ h9 => absurd hw h9⟩⟩
  rw [h0] at h0'
  cases h0'
  rw [hr] at hr'
  cases hr'
  exact h
theorem SayK_H {M : Addr} {cC cA cH : Ct} {A : AH} {p b : Addr} {bk : List (Str × List Pt)} {w sh n : Str} {ps : List D} {row : List Pt} {k : AK} {e : Value → AH → Prop} (hw : w ∉ wA) (hw4 : w ∉ w4) (hc : w ≠ "curve") (hn : w ≠ "names") (hsh : lkT kvs_SHAPES w = some sh) (hk : Knw bk sh ps) (h0 : ps.getD 0 .non = .str n) (hr : lkB bk n = some row) (h : cH [.ref p, .str w, fzs pt row, .fz ps] A k e) : SayK M cC cA cH A p b bk w ps k e := by
  refine ⟨fun e9 => absurd e9 hc, fun e9 => absurd e9 hn, fun _ _ sh' hsh' => ?_⟩
  rw [hsh] at hsh'
  cases hsh'
  refine ⟨fun no => absurd hk no, fun _ n' row' h0' hr' => ⟨fun h9 => absurd h9 hw4, fun h9 => absurd h9 hw, fun _ _ => ?_⟩⟩
  rw [h0] at h0'
  cases h0'
  rw [hr] at hr'
  cases hr'
  exact h
theorem SayK_C {M : Addr} {cC cA cH : Ct} {A : AH} {p b : Addr} {bk : List (Str × List Pt)} {w sh n n2 : Str} {ps : List D} {row row2 : List Pt} {k : AK} {e : Value → AH → Prop} (hw : w ∈ w4) (hsh : lkT kvs_SHAPES w = some sh) (hk : Knw bk sh ps) (h0 : ps.getD 0 .non = .str n) (hr : lkB bk n = some row) (h1 : ps.getD 1 .non = .str n2) (hr2 : lkB bk n2 = some row2)
    (h : cC [.ref p, .str w, fzs pt row, fzs pt row2, ps.getD (ps.length - 1) .non] A k e) : SayK M cC cA cH A p b bk w ps k e := by
  have hall : ∀ w ∈ w4, w ≠ "curve" ∧ w ≠ "names" := by decide
  obtain ⟨g1, g2⟩ := hall w hw
  refine ⟨fun e9 => absurd e9 g1, fun e9 => absurd e9 g2, fun _ _ sh' hsh' => ?_⟩
  rw [hsh] at hsh'
  cases hsh'
  have h3 : w ∉ wA := by
    have hall : ∀ w ∈ w4, w ∉ wA := by decide
    exact hall w hw
  refine ⟨fun no => absurd hk no, fun _ n' row' h0' hr' => ⟨fun _ m' row2' h1' hr2' => ?_, fun h9 => absurd h9 h3, fun h9 => absurd hw h9⟩⟩
  rw [h0] at h0'
  cases h0'
  rw [hr] at hr'
  cases hr'
  rw [h1] at h1'
  cases h1'
  rw [hr2] at hr2'
  cases hr2'
  exact h
def ct__law_share : Ct := fun ds A k _ => ∃ (t : Int) (b : Int), ds = [.int t, .int b] ∧ (0 < b) ∧ (b.natAbs < 2 ^ 9000) ∧ k (sh ((t : Rat) / (b : Rat))) A
theorem ok__law_share (T : Txt K mg) : Fn P w K mg base "_law_share" 1 ct__law_share := by
  refine fn_mk T.d__law_share sc__law_share (fun ds A k e h => ?_) fun f cdv A0 outer s H E hr hp htk ds A kk ee h => ?_
  · obtain ⟨t, b, rfl, _⟩ := h; rfl
  obtain ⟨t, b, rfl, hb0, hbz, hk⟩ := h
  refine as_setv (f := D.int) (i := 2) sc__law_share.nd rfl (.inl rfl) (av_abs rfl T.m_abs (av_var (i := 0) rfl (.inl rfl) rfl)) fun x0 hx0 => ?_
  refine as_setv (f := D.int) (i := 3) sc__law_share.nd rfl (.inl rfl) (av_var (i := 1) rfl (.inl rfl) rfl) fun y0 hy0 => ?_
  have e0 : x0.natAbs = t.natAbs ∧ 0 ≤ x0 := by subst hx0; split <;> omega
  refine as_cons (a1_whileN hp (fun n ρ A' => ∃ (y : Option D) (x : Int) (o : Int), ρ = [some (.int t), some (.int b), some (.int x), some (.int o), y] ∧ A = A' ∧ (0 ≤ x) ∧ (0 ≤ o) ∧ (o ≤ b) ∧ (Nat.gcd x.natAbs o.natAbs = Nat.gcd t.natAbs b.natAbs) ∧ (o.natAbs = n)) ⟨_, _, x0, y0, rfl, rfl, by omega, by omega, by omega, by rw [e0.1, hy0], rfl⟩ fun n ρ A' hI => ?_)
  obtain ⟨y, x, o, rfl, rfl, hx, hy, hyb, hg, hn⟩ := hI
  refine AT.aet (at_gt (av_var (i := 3) rfl (.inl rfl) rfl) av_int) ⟨fun hb => ?_, fun hb => ?_⟩
  · skip
    have hb : o > 0 := of_decide_eq_true hb
    have h0 : 0 < o := by omega
    have h1 := Int.emod_nonneg x (show o ≠ 0 by omega)
    have h2 := Int.emod_lt_of_pos x h0
    refine as_set (i := 4) sc__law_share.nd rfl (.inl rfl) (AV.ae (av_mod (av_var (i := 2) rfl (.inl rfl) rfl) (av_var (i := 3) rfl (.inl rfl) rfl) h0) ?_)
    refine as_set (i := 2) sc__law_share.nd rfl (.inl rfl) (AV.ae (av_var (i := 3) rfl (.inl rfl) rfl) ?_)
    refine as_set (i := 3) sc__law_share.nd rfl (.inl rfl) (AV.ae (av_var (i := 4) rfl (.inl rfl) rfl) ?_)
    exact as_nil ⟨(x % o).natAbs, by omega, _, o, (x % o), rfl, rfl, hy, h1, by omega, (gcd_step hx h0).trans hg, rfl⟩
  have hb : o = 0 := by have := of_decide_eq_false hb; omega
  subst hb
  have hxg : x = (Nat.gcd t.natAbs b.natAbs : Nat) := by rw [← hg, gcd_zero hx]
  subst hxg
  have hgp : 0 < Nat.gcd t.natAbs b.natAbs := Nat.gcd_pos_of_pos_right _ (by omega)
  have hle : Nat.gcd t.natAbs b.natAbs ≤ b.natAbs := Nat.le_of_dvd (by omega) (Nat.gcd_dvd_right _ _)
  have hd : ∀ i : Int, CDivW i (Nat.gcd t.natAbs b.natAbs : Nat) := fun i => divw (b := 9000) (by omega) (by omega) (by decide) (by decide)
  refine as_retv (av_tup (avs_c (av_div (av_var (i := 0) rfl (.inl rfl) rfl) (av_var (i := 2) rfl (.inl rfl) rfl) (hd _)) (avs_c (av_div (av_var (i := 1) rfl (.inl rfl) rfl) (av_var (i := 2) rfl (.inl rfl) rfl) (hd _)) avs_nil))) ?_
  rw [share_eq hb0]
  exact hk
def ct__law_way : Ct := fun ds A k _ => ∃ (c : Int), ds = [.int c] ∧ k (.tup [D.int (wayC c).1, D.int (wayC c).2.1, ip (wayC c).2.2.1, ip (wayC c).2.2.2]) A
theorem ok__law_way (T : Txt K mg) : Fn P w K mg base "_law_way" 2 ct__law_way := by
  refine fn_mk T.d__law_way sc__law_way (fun ds A k e h => ?_) fun f cdv A0 outer s H E hr hp htk ds A kk ee h => ?_
  · obtain ⟨c, rfl, _⟩ := h; rfl
  obtain ⟨c, rfl, hk⟩ := h
  refine as_set (i := 1) sc__law_way.nd rfl (.inl rfl) (AV.ae (AE.av (ae_call (ok__law_stream T) (hr.mono (by decide)) rfl (AVs.aes (avs_c (av_var (i := 0) rfl (.inl rfl) rfl) (avs_c av_int avs_nil)) ⟨_, 6, rfl, by decide, ⟨rfl, Ext.refl _⟩⟩))) ?_)
  have h0 := stC_bd c 0
  have hix : 0 ≤ ((List.range 6).map (stC c)).getD 0 0 % 8 ∧ ((List.range 6).map (stC c)).getD 0 0 % 8 < 8 := ⟨Int.emod_nonneg _ (by decide), Int.emod_lt_of_pos _ (by decide)⟩
  refine as_set (i := 2) sc__law_way.nd rfl (.inl rfl) (AV.ae (av_ixD (f := D.int) (0 : Int) (av_lst (ds := ([_, _, _, _, _, _, _, _] : List Int).map D.int) (avs_c av_int (avs_c av_int (avs_c av_int (avs_c av_int (avs_c av_int (avs_c av_int (avs_c av_int (avs_c (av_add (av_pow av_int av_int (by walk_at "sz")) av_int) avs_nil))))))))) IsL.fz (av_mod (av_ixDN (f := D.int) (0 : Int) (av_var (i := 1) rfl (.inl rfl) rfl) IsL.fz av_int (n := 0) (by first | rfl | decide | (simp)) (by first | rfl | decide | (simp))) av_int (by walk_at "sz")) hix.1 (show _ < ((8 : Nat) : Int) by omega)) ?_)
  refine as_set (i := 3) sc__law_way.nd rfl (.inl rfl) (AV.ae (av_tup (avs_c (av_sub (av_mod (av_ixDN (f := D.int) (0 : Int) (av_var (i := 1) rfl (.inl rfl) rfl) IsL.fz av_int (n := 1) (by first | rfl | decide | (simp)) (by first | rfl | decide | (simp))) av_int (by walk_at "sz")) av_int) (avs_c (av_sub (av_mod (av_ixDN (f := D.int) (0 : Int) (av_var (i := 1) rfl (.inl rfl) rfl) IsL.fz av_int (n := 2) (by first | rfl | decide | (simp)) (by first | rfl | decide | (simp))) av_int (by walk_at "sz")) av_int) avs_nil))) ?_)
  refine as_retv (av_tup (avs_c (av_var (i := 2) rfl (.inl rfl) rfl) (avs_c (av_mod (av_ixDN (f := D.int) (0 : Int) (av_var (i := 1) rfl (.inl rfl) rfl) IsL.fz av_int (n := 3) (by first | rfl | decide | (simp)) (by first | rfl | decide | (simp))) av_int (by walk_at "sz")) (avs_c (av_var (i := 3) rfl (.inl rfl) rfl) (avs_c (av_tup (avs_c (av_sub (av_mod (av_ixDN (f := D.int) (0 : Int) (av_var (i := 1) rfl (.inl rfl) rfl) IsL.fz av_int (n := 4) (by first | rfl | decide | (simp)) (by first | rfl | decide | (simp))) av_int (by walk_at "sz")) av_int) (avs_c (av_sub (av_mod (av_ixDN (f := D.int) (0 : Int) (av_var (i := 1) rfl (.inl rfl) rfl) IsL.fz av_int (n := 5) (by first | rfl | decide | (simp)) (by first | rfl | decide | (simp))) av_int (by walk_at "sz")) av_int) avs_nil))) avs_nil))))) hk
def ct__law_place : Ct := fun ds A k _ => ∃ (c : Int) (W : (Int × Int × Ip × Ip)), ds = [.int c, .tup [D.int W.1, D.int W.2.1, ip W.2.2.1, ip W.2.2.2]] ∧ (WyOk W) ∧ k (ip (placeC W c)) A
theorem ok__law_place (T : Txt K mg) : Fn P w K mg base "_law_place" 2 ct__law_place := by
  refine fn_mk T.d__law_place sc__law_place (fun ds A k e h => ?_) fun f cdv A0 outer s H E hr hp htk ds A kk ee h => ?_
  · obtain ⟨c, W, rfl, _⟩ := h; rfl
  obtain ⟨c, W, rfl, hW, hk⟩ := h
  refine as_cons (a1_asg (AV.ae (av_var (i := 1) rfl (.inl rfl) rfl) ⟨_, (ag_tup rfl (ags_cons (ag_name (i := 2) sc__law_place.nd rfl (.inl rfl)) (ags_cons (ag_name (i := 3) sc__law_place.nd rfl (.inl rfl)) (ags_cons (ag_name (i := 4) sc__law_place.nd rfl (.inl rfl)) (ags_cons (ag_name (i := 5) sc__law_place.nd rfl (.inl rfl)) ags_nil))))), ?_⟩))
  refine AS.ro (ρ' := [some (.int c), some (.tup [D.int W.1, D.int W.2.1, ip W.2.2.1, ip W.2.2.2]), some (.int W.1), some (.int W.2.1), some (ip W.2.2.1), some (ip W.2.2.2), none]) ?_
  refine as_set (i := 6) sc__law_place.nd rfl (.inl rfl) (AV.ae (AE.av (ae_call (ok__law_stream T) (hr.mono (by decide)) rfl (AVs.aes (avs_c (av_var (i := 0) rfl (.inl rfl) rfl) (avs_c av_int avs_nil)) ⟨_, 4, rfl, by decide, ⟨rfl, Ext.refl _⟩⟩))) ?_)
  refine AS.ro (ρ' := [some (.int c), some (.tup [D.int W.1, D.int W.2.1, ip W.2.2.1, ip W.2.2.2]), some (.int W.1), some (.int W.2.1), some (ip W.2.2.1), some (ip W.2.2.2), some (.fz (((List.range 4).map (stC c)).map D.int))]) ?_
  have w1 := hW.s1
  have w2 := hW.s2
  have w3 := hW.t1
  have w4 := hW.t2
  have h0 := stC_bd c 0
  have h1 := stC_bd c 1
  have q0 : 0 ≤ ((List.range 4).map (stC c)).getD 0 0 ∧ ((List.range 4).map (stC c)).getD 0 0 < 2147483647 := h0
  refine as_if (at_eq (av_var (i := 3) rfl (.inl rfl) rfl) av_int) (fun hb0 => ?_) (fun hb0 => as_end ?_)
  · have hb0 := of_decide_eq_true hb0
    rw [placeC, if_pos hb0] at hk
    refine as_retv (av_tup (avs_c (av_sub (av_mod (av_var (i := 0) rfl (.inl rfl) rfl) (av_pow av_int av_int (by walk_at "sz")) (by decide)) (av_mulS av_int (av_pow av_int av_int (by walk_at "sz")) (.inl (by decide)))) (avs_c (av_sub (av_mod (av_mulS (av_var (i := 0) rfl (.inl rfl) rfl) (av_ixDN (f := D.int) (0 : Int) (av_var (i := 6) rfl (.inl rfl) rfl) IsL.fz av_int (n := 0) (by first | rfl | decide | (simp)) (by first | rfl | decide | (simp))) (.inr (by omega))) (av_pow av_int av_int (by walk_at "sz")) (by decide)) (av_mulS av_int (av_pow av_int av_int (by walk_at "sz")) (.inl (by decide)))) avs_nil))) hk
  have hb0 := of_decide_eq_false hb0
  refine as_if (at_eq (av_var (i := 3) rfl (.inl rfl) rfl) av_int) (fun hb1 => ?_) (fun hb1 => as_end ?_)
  · have hb1 := of_decide_eq_true hb1
    rw [placeC, if_neg hb0, if_pos hb1] at hk
    refine as_retv (av_tup (avs_c (av_add (av_ixT (av_var (i := 4) rfl (.inl rfl) rfl) av_int rfl) (av_mulS (av_ixT (av_var (i := 5) rfl (.inl rfl) rfl) av_int rfl) (av_mod (av_ixDN (f := D.int) (0 : Int) (av_var (i := 6) rfl (.inl rfl) rfl) IsL.fz av_int (n := 0) (by first | rfl | decide | (simp)) (by first | rfl | decide | (simp))) av_int (by walk_at "sz")) (.inl (by omega)))) (avs_c (av_add (av_ixT (av_var (i := 4) rfl (.inl rfl) rfl) av_int rfl) (av_mulS (av_ixT (av_var (i := 5) rfl (.inl rfl) rfl) av_int rfl) (av_mod (av_ixDN (f := D.int) (0 : Int) (av_var (i := 6) rfl (.inl rfl) rfl) IsL.fz av_int (n := 0) (by first | rfl | decide | (simp)) (by first | rfl | decide | (simp))) av_int (by walk_at "sz")) (.inl (by omega)))) avs_nil))) hk
  have hb1 := of_decide_eq_false hb1
  refine as_if (at_eq (av_var (i := 3) rfl (.inl rfl) rfl) av_int) (fun hb2 => ?_) (fun hb2 => as_end ?_)
  · have hb2 := of_decide_eq_true hb2
    rw [placeC, if_neg hb0, if_neg hb1, if_pos hb2] at hk
    refine as_retv (av_tup (avs_c (av_add (av_ixT (av_var (i := 4) rfl (.inl rfl) rfl) av_int rfl) (av_mulS (av_mod (av_ixDN (f := D.int) (0 : Int) (av_var (i := 6) rfl (.inl rfl) rfl) IsL.fz av_int (n := 0) (by first | rfl | decide | (simp)) (by first | rfl | decide | (simp))) av_int (by walk_at "sz")) (av_ixT (av_var (i := 5) rfl (.inl rfl) rfl) av_int rfl) (.inr (by omega)))) (avs_c (av_ixT (av_var (i := 4) rfl (.inl rfl) rfl) av_int rfl) avs_nil))) hk
  have hb2 := of_decide_eq_false hb2
  refine as_if (at_eq (av_var (i := 3) rfl (.inl rfl) rfl) av_int) (fun hb3 => ?_) (fun hb3 => as_end ?_)
  · have hb3 := of_decide_eq_true hb3
    rw [placeC, if_neg hb0, if_neg hb1, if_neg hb2, if_pos hb3] at hk
    refine as_retv (av_tup (avs_c (av_add (av_mulS (av_ixT (av_var (i := 4) rfl (.inl rfl) rfl) av_int rfl) (av_pow av_int av_int (by walk_at "sz")) (.inl (by omega))) (av_mod (av_ixDN (f := D.int) (0 : Int) (av_var (i := 6) rfl (.inl rfl) rfl) IsL.fz av_int (n := 0) (by first | rfl | decide | (simp)) (by first | rfl | decide | (simp))) av_int (by walk_at "sz"))) (avs_c (av_add (av_mulS (av_ixT (av_var (i := 4) rfl (.inl rfl) rfl) av_int rfl) (av_pow av_int av_int (by walk_at "sz")) (.inl (by omega))) (av_mod (av_ixDN (f := D.int) (0 : Int) (av_var (i := 6) rfl (.inl rfl) rfl) IsL.fz av_int (n := 1) (by first | rfl | decide | (simp)) (by first | rfl | decide | (simp))) av_int (by walk_at "sz"))) avs_nil))) hk
  have hb3 := of_decide_eq_false hb3
  refine as_if (at_gt (av_var (i := 0) rfl (.inl rfl) rfl) av_int) (fun hb4 => ?_) (fun hb4 => as_end ?_)
  · have hb4 := of_decide_eq_true hb4
    rw [placeC, if_neg hb0, if_neg hb1, if_neg hb2, if_neg hb3, if_pos hb4] at hk
    refine as_retv (av_tup (avs_c (av_sub (av_mod (av_var (i := 0) rfl (.inl rfl) rfl) av_int (by walk_at "sz")) av_int) (avs_c (av_sub (av_mod (av_div (av_var (i := 0) rfl (.inl rfl) rfl) av_int (by walk_at "sz")) av_int (by walk_at "sz")) av_int) avs_nil))) hk
  have hb4 := of_decide_eq_false hb4
  rw [placeC, if_neg hb0, if_neg hb1, if_neg hb2, if_neg hb3, if_neg hb4] at hk
  refine as_retv (av_tup (avs_c (av_sub (av_mod (av_ixDN (f := D.int) (0 : Int) (av_var (i := 6) rfl (.inl rfl) rfl) IsL.fz av_int (n := 0) (by first | rfl | decide | (simp)) (by first | rfl | decide | (simp))) av_int (by walk_at "sz")) av_int) (avs_c (av_sub (av_mod (av_ixDN (f := D.int) (0 : Int) (av_var (i := 6) rfl (.inl rfl) rfl) IsL.fz av_int (n := 1) (by first | rfl | decide | (simp)) (by first | rfl | decide | (simp))) av_int (by walk_at "sz")) av_int) avs_nil))) hk
def ct__law_handed : Ct := fun ds A k _ => ∃ (pls : (List Ip)) (b : Int), ds = [.fz (pls.map ip), .int b] ∧ (pls.length ≤ 100) ∧ (0 < b) ∧ (b.natAbs < 2 ^ 9000) ∧ k (.fz ((pls.map (ptC b)).map pt)) A
theorem ok__law_handed (T : Txt K mg) : Fn P w K mg base "_law_handed" 2 ct__law_handed := by
  refine fn_mk T.d__law_handed sc__law_handed (fun ds A k e h => ?_) fun f cdv A0 outer s H E hr hp htk ds A kk ee h => ?_
  · obtain ⟨pls, b, rfl, _⟩ := h; rfl
  obtain ⟨pls, b, rfl, hl, hb0, hbz, hk⟩ := h
  refine as_retv (av_lcF rfl sc__law_handed.nd (blkOk_by rfl) (own := [("_law_x", 2), ("_law_y", 3)]) (is := [2, 3]) (f := pt) (F := fun i => ptC b (pls.getD i (0, 0))) (by decide) (ai_F ((0, 0) : Ip) (f := ip) (av_var (i := 0) rfl (.inl rfl) rfl) ⟨rfl, rfl, (Nat.le_of_lt (small1000 (by omega))), (fun _ x => trivial), fun i hi => ⟨_, fun s H C cl fp => ⟨(ag_tup rfl (ags_cons (ag_name (i := 2) sc__law_handed.nd rfl (.inl rfl)) (ags_cons (ag_name (i := 3) sc__law_handed.nd rfl (.inl rfl)) ags_nil))), fun A' x => (AV.is (av_tup (avs_c (AE.av (ae_call (ok__law_share T) (hr.mono (by decide)) rfl (AVs.aes (avs_c (av_var (i := 2) rfl (.inl rfl) rfl) (avs_c (av_var (i := 1) rfl (.inr (.inl rfl)) rfl) avs_nil)) ⟨_, _, rfl, hb0, hbz, ⟨rfl, Ext.refl _⟩⟩))) (avs_c (AE.av (ae_call (ok__law_share T) (hr.mono (by decide)) rfl (AVs.aes (avs_c (av_var (i := 3) rfl (.inl rfl) rfl) (avs_c (av_var (i := 1) rfl (.inr (.inl rfl)) rfl) avs_nil)) ⟨_, _, rfl, hb0, hbz, ⟨rfl, Ext.refl _⟩⟩))) avs_nil))) (tup_pt _ _))⟩⟩⟩)) ?_
  rw [map_range_get]
  exact hk
def gi (zs : List Ip) (k : Nat) : Ip := zs.getD k (0, 0)
def stepI (p q : Ip) : Ip := (q.1 - p.1, q.2 - p.2)
def lessI (zs : List Ip) : List Ip := (List.range (zs.length - 1)).map fun k => stepI (gi zs k) (gi zs (k + 1))
theorem lessI_len (zs : List Ip) : (lessI zs).length = zs.length - 1 := by unfold lessI; simp
def ct__law_seats : Ct := fun ds A k _ => ∃ (c : Int) (m : Nat) (W : Wy), ds = [.int c, .int (m : Int), .tup [D.int W.1, D.int W.2.1, ip W.2.2.1, ip W.2.2.2]] ∧ m ≤ 60 ∧ WyOk W ∧ k (.fz ((((List.range m).map (stC c)).map fun o => placeC W (o * o + c)).map ip)) A
theorem ok__law_seats (T : Txt K mg) : Fn P w K mg base "_law_seats" 3 ct__law_seats := by
  refine fn_mk T.d__law_seats sc__law_seats (fun ds A k e h => ?_) fun f cdv A0 outer s H E hr hp htk ds A kk ee h => ?_
  · obtain ⟨c, m, W, rfl, _⟩ := h; rfl
  obtain ⟨c, m, W, rfl, hm, hW, hk⟩ := h
  obtain ⟨ss, hss⟩ : ∃ ss, ss = (List.range m).map (stC c) := ⟨_, rfl⟩
  have hsb : ∀ i, i < ss.length → 0 ≤ ss.getD i 0 ∧ ss.getD i 0 < 2147483647 := fun i hi => by
    rw [hss, List.length_map, List.length_range] at hi
    rw [hss, List.getD_eq_getElem?_getD, List.getElem?_map, List.getElem?_range hi]
    exact stC_bd c i
  have hsl : ss.length ≤ 60 := by rw [hss]; simp; exact hm
  refine as_retv (av_lcF rfl sc__law_seats.nd (blkOk_by rfl) (own := [("_law_one", 3)]) (is := [3]) (f := ip) (F := fun i => placeC W (ss.getD i 0 * ss.getD i 0 + c)) (by decide) (ai_F (0 : Int) (f := D.int) (AV.is (AE.av (ae_call (ok__law_stream T) (hr.mono (by decide)) rfl (AVs.aes (avs_c (av_var (i := 0) rfl (.inr (.inl rfl)) rfl) (avs_c (av_var (i := 1) rfl (.inl rfl) rfl) avs_nil)) ⟨_, m, rfl, by omega, ⟨rfl, Ext.refl _⟩⟩))) (show _ = D.fz (ss.map D.int) by rw [hss])) ⟨rfl, rfl, (Nat.le_of_lt (small1000 (by omega))), (fun _ x => trivial), fun i hi => ⟨_, fun s H C cl fp => ⟨(ag_name (i := 3) sc__law_seats.nd rfl (.inl rfl)), fun A' x => (AE.av (ae_call (ok__law_place T) (hr.mono (by decide)) rfl (AVs.aes (avs_c (av_add (av_mulS (av_var (i := 3) rfl (.inl rfl) rfl) (av_var (i := 3) rfl (.inl rfl) rfl) (.inl (by have := hsb i hi; omega))) (av_var (i := 0) rfl (.inr (.inl rfl)) rfl)) (avs_c (av_var (i := 2) rfl (.inr (.inl rfl)) rfl) avs_nil)) ⟨_, W, rfl, hW, ⟨rfl, Ext.refl _⟩⟩)))⟩⟩⟩)) ?_
  rw [← hss] at hk
  rw [map_range_get ss 0 fun o => placeC W (o * o + c)]
  exact hk
def Bdl (m : Nat) (zs : List Ip) : Prop := ∀ z ∈ zs, z.1.natAbs < 2 ^ m ∧ z.2.natAbs < 2 ^ m
theorem Bdl.up {m n : Nat} {zs : List Ip} (h : Bdl m zs) (e : m ≤ n) : Bdl n zs := fun z hz => ⟨bt_le (h z hz).1 e, bt_le (h z hz).2 e⟩
theorem Bdl.gi {m : Nat} {zs : List Ip} (h : Bdl m zs) (k : Nat) : (gi zs k).1.natAbs < 2 ^ m ∧ (gi zs k).2.natAbs < 2 ^ m := by
  unfold Lw.gi
  by_cases hk : k < zs.length
  · exact getD_in (P := fun z : Ip => z.1.natAbs < 2 ^ m ∧ z.2.natAbs < 2 ^ m) h hk
  · rw [List.getD_eq_getElem?_getD, List.getElem?_eq_none (by omega)]
    exact ⟨Nat.pow_pos (by decide), Nat.pow_pos (by decide)⟩
theorem Bdl.snoc {m : Nat} {zs : List Ip} {z : Ip} (h : Bdl m zs) (hz : z.1.natAbs < 2 ^ m ∧ z.2.natAbs < 2 ^ m) : Bdl m (zs ++ [z]) := fun y hy => (List.mem_append.mp hy).elim (h y) (fun e => by rw [List.mem_singleton.mp e]; exact hz)
theorem Bdl.nil {m : Nat} : Bdl m [] := fun z hz => nomatch hz
theorem Bdl.app {m : Nat} {xs ys : List Ip} (h : Bdl m xs) (h' : Bdl m ys) : Bdl m (xs ++ ys) := fun z hz => (List.mem_append.mp hz).elim (h z) (h' z)
theorem Bdl.sub {m : Nat} {xs ys : List Ip} (h : Bdl m ys) (hs : ∀ z ∈ xs, z ∈ ys) : Bdl m xs := fun z hz => h z (hs z hz)
theorem Bdl.mem {m : Nat} {zs : List Ip} (h : Bdl m zs) {z : Ip} (hz : z ∈ zs) : z.1.natAbs < 2 ^ m ∧ z.2.natAbs < 2 ^ m := h z hz
def gl (css : List (List Ip)) (j : Nat) : List Ip := css.getD j []
structure PthI (css : List (List Ip)) : Prop where
  ln : ∀ zs ∈ css, 0 < zs.length ∧ zs.length ≤ 5
  bd : ∀ zs ∈ css, Bdl 101 zs
  jn : ∀ j, j + 1 < css.length → gi (gl css j) ((gl css j).length - 1) = gi (gl css (j + 1)) 0
structure PthOk (b : Int) (css : List (List Ip)) : Prop extends PthI css where
  b0 : 0 < b
  b1 : b ≤ 1000000007
  l0 : 0 < css.length
  l1 : css.length ≤ 12
theorem gl_app {css : List (List Ip)} {zs : List Ip} {j : Nat} : gl (css ++ [zs]) j = if j < css.length then gl css j else if j = css.length then zs else [] := by
  unfold gl
  rw [List.getD_eq_getElem?_getD, List.getD_eq_getElem?_getD]
  by_cases h : j < css.length
  · rw [if_pos h, List.getElem?_append_left h]
  · rw [if_neg h, List.getElem?_append_right (by omega)]
    by_cases h2 : j = css.length
    · rw [if_pos h2, h2, Nat.sub_self]; rfl
    · rw [if_neg h2]
      have : (j - css.length) ≥ 1 := by omega
      rw [List.getElem?_eq_none (by simpa using this)]; rfl
theorem PthI.nil : PthI [] := ⟨(fun _ h => nomatch h), (fun _ h => nomatch h), fun j h => absurd h (Nat.not_lt_zero _)⟩
theorem PthI.snoc {css : List (List Ip)} {zs : List Ip} (h : PthI css) (h1 : 0 < zs.length ∧ zs.length ≤ 5) (h2 : Bdl 101 zs) (h3 : 0 < css.length → gi (gl css (css.length - 1)) ((gl css (css.length - 1)).length - 1) = gi zs 0) : PthI (css ++ [zs]) := by
  refine ⟨fun y hy => (List.mem_append.mp hy).elim (h.ln y) (fun e => by rw [List.mem_singleton.mp e]; exact h1), fun y hy => (List.mem_append.mp hy).elim (h.bd y) (fun e => by rw [List.mem_singleton.mp e]; exact h2), fun j hj => ?_⟩
  rw [List.length_append, List.length_singleton] at hj
  rw [gl_app, gl_app, if_pos (by omega)]
  by_cases h4 : j + 1 < css.length
  · rw [if_pos h4]; exact h.jn j h4
  · rw [if_neg h4, if_pos (by omega)]
    have := h3 (by omega)
    rw [show css.length - 1 = j by omega] at this
    exact this
/-- the handed curves -/
def hdd (b : Int) (css : List (List Ip)) : List (List Pt) := css.map fun zs => zs.map (ptC b)
theorem hdd_len (b : Int) (css : List (List Ip)) : (hdd b css).length = css.length := by unfold hdd; simp
theorem hdd_get (b : Int) (css : List (List Ip)) (j : Nat) : (hdd b css).getD j [] = (gl css j).map (ptC b) := by
  unfold hdd gl
  rw [List.getD_eq_getElem?_getD, List.getElem?_map, List.getD_eq_getElem?_getD]
  cases css[j]? <;> rfl
theorem gp_ptC (b : Int) {zs : List Ip} {k : Nat} (h : k < zs.length) : gp (zs.map (ptC b)) k = ptC b (gi zs k) := by
  unfold gp gi
  rw [List.getD_eq_getElem?_getD, List.getElem?_map, List.getD_eq_getElem?_getD, List.getElem?_eq_getElem h]; rfl
theorem gl_mem {css : List (List Ip)} {j : Nat} (h : j < css.length) : gl css j ∈ css := getD_ll _ h
theorem PthOk.jnd {b : Int} {css : List (List Ip)} (h : PthOk b css) : Jnd (hdd b css) := fun j hj => by
  rw [hdd_len] at hj
  rw [hdd_get, hdd_get, List.length_map]
  have h1 := h.ln _ (gl_mem (show j < css.length by omega))
  have h2 := h.ln _ (gl_mem hj)
  rw [gp_ptC b (by omega), gp_ptC b h2.1, h.jn j hj]
theorem PthOk.lns {b : Int} {css : List (List Ip)} (h : PthOk b css) {l : Nat} (hl : 5 ≤ l) : Lns l (hdd b css) := fun j hj => by
  rw [hdd_len] at hj
  rw [hdd_get, List.length_map]
  have h1 := h.ln _ (gl_mem hj)
  omega
/-- rows of whole numbers -/
def nxI (a d : Int) (zs : List Ip) : List Ip := (List.range (zs.length - 1)).map fun k => ((d - a) * (gi zs k).1 + a * (gi zs (k + 1)).1, (d - a) * (gi zs k).2 + a * (gi zs (k + 1)).2)
def itI (a d : Int) (zs : List Ip) : Nat → List Ip
  | 0 => zs
  | j + 1 => nxI a d (itI a d zs j)
def rowsI (a d : Int) (zs : List Ip) : List (List Ip) := (List.range zs.length).map (itI a d zs)
theorem nxI_len (a d : Int) (zs : List Ip) : (nxI a d zs).length = zs.length - 1 := by unfold nxI; simp
theorem itI_len (a d : Int) (zs : List Ip) : ∀ j, (itI a d zs j).length = zs.length - j
  | 0 => rfl
  | j + 1 => by show (nxI a d (itI a d zs j)).length = _; rw [nxI_len, itI_len a d zs j]; omega
theorem rowsI_len (a d : Int) (zs : List Ip) : (rowsI a d zs).length = zs.length := by unfold rowsI; simp
theorem rowsI_get {a d : Int} {zs : List Ip} {j : Nat} (h : j < zs.length) : (rowsI a d zs).getD j [] = itI a d zs j := by
  unfold rowsI
  rw [List.getD_eq_getElem?_getD, List.getElem?_map, List.getElem?_range h]; rfl
theorem nxI_bd {a d : Int} {zs : List Ip} {m n : Nat} (ha : a.natAbs < 2 ^ n) (hd : d.natAbs < 2 ^ n) (h : Bdl m zs) : Bdl (m + (n + 2)) (nxI a d zs) := fun z hz => by
  unfold nxI at hz
  rw [List.mem_map] at hz
  obtain ⟨k, _, rfl⟩ := hz
  exact ⟨bt_le (bt_add (bt_mul (bt_sub hd ha) (h.gi k).1) (bt_mul ha (h.gi (k + 1)).1)) (by omega), bt_le (bt_add (bt_mul (bt_sub hd ha) (h.gi k).2) (bt_mul ha (h.gi (k + 1)).2)) (by omega)⟩
theorem itI_bd {a d : Int} {zs : List Ip} {m n : Nat} (ha : a.natAbs < 2 ^ n) (hd : d.natAbs < 2 ^ n) (h : Bdl m zs) : ∀ j, Bdl (m + j * (n + 2)) (itI a d zs j)
  | 0 => h.up (by omega)
  | j + 1 => (nxI_bd ha hd (itI_bd ha hd h j)).up (by rw [Nat.add_mul]; omega)
theorem ptC_way {B a d : Int} (hB : B ≠ 0) (hd : d ≠ 0) (p q : Ip) : onWay (ptC B p) (ptC B q) ((a : Rat) / (d : Rat)) = ptC (B * d) ((d - a) * p.1 + a * q.1, (d - a) * p.2 + a * q.2) := by
  have hB' : (B : Rat) ≠ 0 := by exact_mod_cast hB
  have hd' : (d : Rat) ≠ 0 := by exact_mod_cast hd
  unfold onWay ptC
  refine Prod.ext ?_ ?_
  · show (p.1 : Rat) / B + (a : Rat) / d * ((q.1 : Rat) / B - (p.1 : Rat) / B) = (((d - a) * p.1 + a * q.1 : Int) : Rat) / ((B * d : Int) : Rat)
    push_cast
    grind
  · show (p.2 : Rat) / B + (a : Rat) / d * ((q.2 : Rat) / B - (p.2 : Rat) / B) = (((d - a) * p.2 + a * q.2 : Int) : Rat) / ((B * d : Int) : Rat)
    push_cast
    grind
theorem nextR_ptC {B a d : Int} (hB : B ≠ 0) (hd : d ≠ 0) (zs : List Ip) : nextR ((a : Rat) / (d : Rat)) (zs.map (ptC B)) = (nxI a d zs).map (ptC (B * d)) := by
  unfold nextR nxI
  rw [List.length_map, List.map_map]
  apply List.map_congr_left
  intro k hk
  rw [List.mem_range] at hk
  rw [gp_ptC B (show k < zs.length by omega), gp_ptC B (show k + 1 < zs.length by omega), ptC_way hB hd]
  rfl
theorem iterR_ptC {b a d : Int} (hb : b ≠ 0) (hd : d ≠ 0) (zs : List Ip) : ∀ j, iterR ((a : Rat) / (d : Rat)) (zs.map (ptC b)) j = (itI a d zs j).map (ptC (b * d ^ j))
  | 0 => by rw [Int.pow_zero, Int.mul_one]; rfl
  | j + 1 => by
    show nextR _ (iterR _ _ j) = (nxI a d (itI a d zs j)).map _
    rw [iterR_ptC hb hd zs j, nextR_ptC (Int.mul_ne_zero hb (Int.pow_ne_zero hd)) hd, Int.pow_succ, Int.mul_assoc]
theorem pointR_ptC {b a d : Int} (hb : b ≠ 0) (hd : d ≠ 0) {zs : List Ip} (h0 : 0 < zs.length) : pointR ((a : Rat) / (d : Rat)) (zs.map (ptC b)) = ptC (b * d ^ (zs.length - 1)) (gi (itI a d zs (zs.length - 1)) 0) := by
  unfold pointR
  rw [iterR_ptC hb hd, List.length_map, gp_ptC _ (by rw [itI_len]; omega)]
/-- over one bottom -/
theorem rw_ptC {b : Int} {m : Nat} {zs : List Ip} (h0 : 0 < b) (h1 : b.natAbs < 2 ^ m) (h : Bdl m zs) : Rw m (zs.map (ptC b)) := by
  refine ⟨b, by omega, h1, fun p hp => ?_⟩
  rw [List.mem_map] at hp
  obtain ⟨z, hz, rfl⟩ := hp
  exact ⟨⟨z.1, rfl, (h z hz).1⟩, ⟨z.2, rfl, (h z hz).2⟩⟩
theorem num_denI (t : Rat) : t = (t.num : Rat) / ((t.den : Int) : Rat) := by
  rw [show (((t.den : Int)) : Rat) = (t.den : Rat) by push_cast; rfl]
  exact rat_eq t
theorem rest_eq (t : Rat) (n : Int) : t - (n : Rat) = ((t.num - n * (t.den : Int) : Int) : Rat) / ((t.den : Int) : Rat) := by
  have hd : ((t.den : Int) : Rat) ≠ 0 := by have := t.den_pos; exact_mod_cast (by omega : (t.den : Int) ≠ 0)
  have h := num_denI t
  generalize (t.den : Int) = d at h hd ⊢
  generalize t.num = a at h ⊢
  subst h
  push_cast
  grind
def ct__law_rows : Ct := fun ds A k _ => ∃ (zs : (List Ip)) (t : Ip) (m n : Nat), ds = [.fz (zs.map ip), ip t] ∧ (0 < zs.length) ∧ (zs.length ≤ 64) ∧ (Bdl m zs) ∧ (t.1.natAbs < 2 ^ n) ∧ (t.2.natAbs < 2 ^ n) ∧ (m ≤ 1000) ∧ (n ≤ 100) ∧ k (.fz ((rowsI t.1 t.2 zs).map (fzs ip))) A
theorem ok__law_rows (T : Txt K mg) : Fn P w K mg base "_law_rows" 1 ct__law_rows := by
  refine fn_mk T.d__law_rows sc__law_rows (fun ds A k e h => ?_) fun f cdv A0 outer s H E hr hp htk ds A kk ee h => ?_
  · obtain ⟨zs, t, m, n, rfl, _⟩ := h; rfl
  obtain ⟨zs, t, m, n, rfl, hl0, hl, hb_, h1, h2, hm, hn, hk⟩ := h
  refine as_set (i := 2) sc__law_rows.nd rfl (.inl rfl) (AL.ae (al_lst (ds := ([_] : List (List Ip)).map (fzs ip)) (avs_c (av_var (i := 0) rfl (.inl rfl) rfl) avs_nil)) fun q hq => ?_)
  refine AS.ro (ρ' := [some (.fz (zs.map ip)), some (ip t), some (.ref q), none, none, none, none]) ?_
  refine as_cons (a1_whileN hp (fun u ρ A' => ∃ (y : Option D) (y2 : Option D) (y3 : Option D) (y4 : Option D) (rs : List (List Ip)), ρ = [some (.fz (zs.map ip)), some (ip t), some (.ref q), y, y2, y3, y4] ∧ A' = aupd A q (.lst (rs.map (fzs ip))) ∧ (∃ j, j < zs.length ∧ u = zs.length - j ∧ rs = (List.range (j + 1)).map (itI t.1 t.2 zs) ∧ rs.length = j + 1 ∧ rs.getD (rs.length - 1) [] = (itI t.1 t.2 zs j))) ⟨_, _, _, _, _, [zs], rfl, rfl, 0, hl0, rfl, rfl, rfl, rfl⟩ fun u ρ A' hI => ?_)
  obtain ⟨y, y2, y3, y4, rs, rfl, rfl, ⟨j, hj, hu, hrs, hrl, hlast⟩⟩ := hI
  refine AT.aet (at_gt (av_lenD rfl T.m_len (av_ixDB (f := (fzs ip)) ([] : (List Ip)) (av_var (i := 2) rfl (.inl rfl) rfl) (by walk_at "il") (av_neg av_int) (n := 1) rfl (by decide) (by rw [hrl]; omega)) IsL.fz) av_int) ⟨fun hb => ?_, fun hb => ?_⟩
  · skip
    have hil := itI_len t.1 t.2 zs j
    rw [hlast] at hb
    have hb : ((itI t.1 t.2 zs j).length : Int) > 1 := of_decide_eq_true hb
    have hbj : Bdl 10000 (itI t.1 t.2 zs j) := (itI_bd h1 h2 hb_ j).up (by have := Nat.mul_le_mul (show j ≤ 64 by omega) (show n + 2 ≤ 102 by omega); omega)
    generalize hr0 : (itI t.1 t.2 zs j) = r9 at hlast hil hb hbj
    refine as_setv (f := (fzs ip)) (i := 3) sc__law_rows.nd rfl (.inl rfl) (av_ixDB (f := (fzs ip)) ([] : (List Ip)) (av_var (i := 2) rfl (.inl rfl) rfl) (by walk_at "il") (av_neg av_int) (n := 1) rfl (by decide) (by rw [hrl]; omega)) fun r hr_1 => ?_
    refine AS.ro (ρ' := [some (.fz (zs.map ip)), some (ip t), some (.ref q), some (.fz (r.map ip)), y2, y3, y4]) ?_
    rw [hlast] at hr_1
    subst hr_1
    refine AS.ro (ρ' := [some (.fz (zs.map ip)), some (ip t), some (.ref q), some (.fz (r.map ip)), y2, y3, y4]) ?_
    refine as_set (i := 4) sc__law_rows.nd rfl (.inl rfl) (AL.ae (al_lst (ds := []) avs_nil) fun z hz => ?_)
    refine AS.ro (ρ' := [some (.fz (zs.map ip)), some (ip t), some (.ref q), some (.fz (r.map ip)), some (.ref z), y3, y4]) ?_
    refine as_cons (a1_for hp rfl (ai_rng rfl T.m_range (av_sub (av_lenD rfl T.m_len (av_var (i := 3) rfl (.inl rfl) rfl) IsL.fz) av_int) (by walk_at "om") (by walk_at "om") ⟨fun i ρ A' => ∃ (y5 : Option D) (y6 : Option D), ρ = [some (.fz (zs.map ip)), some (ip t), some (.ref q), some (.fz (r.map ip)), some (.ref z), y5, y6] ∧ A' = aupd (aupd A q (.lst (rs.map (fzs ip)))) z (.lst (((List.range i).map fun k => (((t.2 - t.1) * (gi r k).1 + t.1 * (gi r (k + 1)).1, (t.2 - t.1) * (gi r k).2 + t.1 * (gi r (k + 1)).2) : Ip)).map ip)), ⟨_, _, rfl, rfl⟩, fun i ρ A' hle hI => trivial, fun i ρ A' hi hI => ⟨_, _, (ag_name (i := 5) sc__law_rows.nd rfl (.inl rfl)), ?_⟩, fun ρ A' hI => ?_⟩))
    · skip
      obtain ⟨y5, y6, rfl, rfl⟩ := hI
      have g1 := hbj.gi i
      have g2 := hbj.gi (i + 1)
      refine as_setv (f := D.int) (i := 6) sc__law_rows.nd rfl (.inl rfl) (av_add (av_mul (av_sub (av_ixT (av_var (i := 1) rfl (.inl rfl) rfl) av_int rfl) (av_ixT (av_var (i := 1) rfl (.inl rfl) rfl) av_int rfl)) (av_ixT (AV.is (av_ixDN (f := ip) ((0, 0) : Ip) (av_var (i := 3) rfl (.inl rfl) rfl) IsL.fz (av_var (i := 5) rfl (.inl rfl) rfl) (n := i) (by first | rfl | omega) (by omega)) (show _ = ip (gi r (i)) from rfl)) av_int rfl) (mulx (bt_sub h2 h1) g1.1 (by omega))) (av_mul (av_ixT (av_var (i := 1) rfl (.inl rfl) rfl) av_int rfl) (av_ixT (AV.is (av_ixDN (f := ip) ((0, 0) : Ip) (av_var (i := 3) rfl (.inl rfl) rfl) IsL.fz (av_add (av_var (i := 5) rfl (.inl rfl) rfl) av_int) (n := i + 1) (by first | rfl | omega) (by omega)) (show _ = ip (gi r (i + 1)) from rfl)) av_int rfl) (mulx h1 g2.1 (by omega)))) fun x hx => ?_
      refine AS.ro (ρ' := [some (.fz (zs.map ip)), some (ip t), some (.ref q), some (.fz (r.map ip)), some (.ref z), some (.int (i : Int)), some (.int x)]) ?_
      refine as_cons (a1_expr (ae_append (AV.ae (av_var (i := 4) rfl (.inl rfl) rfl) ⟨_, rfl, ⟨_, aupd_same⟩, AV.ae (av_tup (avs_c (av_var (i := 6) rfl (.inl rfl) rfl) (avs_c (av_add (av_mul (av_sub (av_ixT (av_var (i := 1) rfl (.inl rfl) rfl) av_int rfl) (av_ixT (av_var (i := 1) rfl (.inl rfl) rfl) av_int rfl)) (av_ixT (AV.is (av_ixDN (f := ip) ((0, 0) : Ip) (av_var (i := 3) rfl (.inl rfl) rfl) IsL.fz (av_var (i := 5) rfl (.inl rfl) rfl) (n := i) (by first | rfl | omega) (by omega)) (show _ = ip (gi r (i)) from rfl)) av_int rfl) (mulx (bt_sub h2 h1) g1.2 (by omega))) (av_mul (av_ixT (av_var (i := 1) rfl (.inl rfl) rfl) av_int rfl) (av_ixT (AV.is (av_ixDN (f := ip) ((0, 0) : Ip) (av_var (i := 3) rfl (.inl rfl) rfl) IsL.fz (av_add (av_var (i := 5) rfl (.inl rfl) rfl) av_int) (n := i + 1) (by first | rfl | omega) (by omega)) (show _ = ip (gi r (i + 1)) from rfl)) av_int rfl) (mulx h1 g2.2 (by omega)))) avs_nil))) ⟨_, aupd_same, (by rw [List.length_map, List.length_map, List.length_range]; exact small1000 (by omega)), ?_⟩⟩)))
      rw [hx]
      exact as_nil ⟨_, _, rfl, by rw [aupd_aupd, List.range_succ, List.map_append, List.map_append]; rfl⟩
    obtain ⟨y5, y6, rfl, rfl⟩ := hI
    have en : (List.range ((r.length : Int) - 1).toNat).map (fun k => (((t.2 - t.1) * (gi r k).1 + t.1 * (gi r (k + 1)).1, (t.2 - t.1) * (gi r k).2 + t.1 * (gi r (k + 1)).2) : Ip)) = nxI t.1 t.2 r := by
      unfold nxI
      rw [show ((r.length : Int) - 1).toNat = r.length - 1 by omega]
    rw [en]
    refine as_fz 4 rfl hz ?_
    refine AS.ro (ρ' := [some (.fz (zs.map ip)), some (ip t), some (.ref q), some (.fz (r.map ip)), some (.fz ((nxI t.1 t.2 r).map ip)), y5, y6]) ?_
    refine as_cons (a1_expr (ae_append (AV.ae (av_var (i := 2) rfl (.inl rfl) rfl) ⟨_, rfl, ⟨_, aupd_same⟩, AV.ae (av_var (i := 4) rfl (.inl rfl) rfl) ⟨_, aupd_same, (by rw [List.length_map]; exact small1000 (by omega)), ?_⟩⟩)))
    exact as_nil ⟨_, (show zs.length - (j + 1) < u by omega), _, _, _, _, rs ++ [nxI t.1 t.2 r], rfl, by rw [aupd_aupd, map_snoc], j + 1, by omega, rfl, by rw [hrs, List.range_succ (n := j + 1), List.map_append, ← hr0]; rfl, by rw [List.length_append, hrl]; rfl, by rw [List.length_append, hrl, ← hr0]; exact getD_last hrl⟩
  rw [hlast, itI_len] at hb
  have hb : ¬ (((zs.length - j : Nat) : Int) > 1) := of_decide_eq_false hb
  have e : j + 1 = zs.length := by omega
  refine as_fz 2 rfl hq ?_
  refine AS.ro (ρ' := [some (.fz (zs.map ip)), some (ip t), some (.fz (rs.map (fzs ip))), y, y2, y3, y4]) ?_
  refine as_retv (av_var (i := 2) rfl (.inl rfl) rfl) ?_
  rw [hrs, e]
  exact hk
def ct__law_power : Ct := fun ds A k _ => ∃ (x : Int) (m : Nat), ds = [.int x, .int (m : Int)] ∧ x.natAbs < 2 ^ 60 ∧ m ≤ 64 ∧ k (.int (x ^ m)) A
theorem ok__law_power (T : Txt K mg) : Fn P w K mg base "_law_power" 1 ct__law_power := by
  refine fn_mk T.d__law_power sc__law_power (fun ds A k e h => ?_) fun f cdv A0 outer s H E hr hp htk ds A kk ee h => ?_
  · obtain ⟨x, m, rfl, _⟩ := h; rfl
  obtain ⟨x, m, rfl, hx, hm, hk⟩ := h
  refine as_set (i := 2) sc__law_power.nd rfl (.inl rfl) (AV.ae av_int ?_)
  refine as_cons (a1_for hp rfl (ai_rng rfl T.m_range (av_var (i := 1) rfl (.inl rfl) rfl) (by walk_at "om") (by walk_at "om") ⟨fun i ρ A' => ∃ (y : Option D) (pw : Int), ρ = [some (.int x), some (.int (m : Int)), some (.int pw), y] ∧ A = A' ∧ (pw = x ^ i), ⟨_, 1, rfl, rfl, (Int.pow_zero x).symm⟩, fun i ρ A' hle hI => trivial, fun i ρ A' hi hI => ⟨_, _, (ag_name (i := 3) sc__law_power.nd rfl (.inl rfl)), ?_⟩, fun ρ A' hI => ?_⟩))
  · skip
    obtain ⟨y, pw, rfl, rfl, hy⟩ := hI
    refine as_set (i := 2) sc__law_power.nd rfl (.inl rfl) (AV.ae (av_mulS (av_var (i := 2) rfl (.inl rfl) rfl) (av_var (i := 0) rfl (.inl rfl) rfl) (.inr (by omega))) ?_)
    exact as_nil ⟨_, (pw * x), rfl, rfl, by rw [hy, Int.pow_succ]⟩
  obtain ⟨y, pw, rfl, rfl, hy⟩ := hI
  refine as_retv (av_var (i := 2) rfl (.inl rfl) rfl) (by rw [hy, Int.toNat_natCast]; exact hk)
def ct__law_share_text : Ct := fun ds A k _ => ∃ (q : Rat) (m : Nat), ds = [sh q] ∧ (Sz m q) ∧ (m ≤ 1900) ∧ (0 < m) ∧ k (.str (shT q)) A
theorem ok__law_share_text (T : Txt K mg) : Fn P w K mg base "_law_share_text" 1 ct__law_share_text := by
  refine fn_mk T.d__law_share_text sc__law_share_text (fun ds A k e h => ?_) fun f cdv A0 outer s H E hr hp htk ds A kk ee h => ?_
  · obtain ⟨q, m, rfl, _⟩ := h; rfl
  obtain ⟨q, m, rfl, hq, hm, hm0, hk⟩ := h
  have h1 := wl_len hm0 hq.num
  have h2 := wl_len hm0 hq.den
  rw [← tl_tx, ← TL.len_tl] at h1 h2
  have h3 : (tx q.num ++ "/").length = (tx q.num).length + 1 := by rw [TL.len_tl, TL.tl_append, List.length_append, ← TL.len_tl]; rfl
  refine as_if (at_eq (av_ixT (av_var (i := 0) rfl (.inl rfl) rfl) av_int rfl) av_int) (fun hb => ?_) (fun hb => as_end ?_)
  · have hb : q.den = 1 := by have := of_decide_eq_true hb; omega
    rw [shT, if_pos hb] at hk
    refine as_retv (av_strI rfl T.m_str (av_ixT (av_var (i := 0) rfl (.inl rfl) rfl) av_int rfl) (log_lt hq.num (by omega) hm0)) hk
  have hb : ¬ q.den = 1 := by have := of_decide_eq_false hb; omega
  rw [shT, if_neg hb] at hk
  refine as_retv (av_catS (av_catS (av_strI rfl T.m_str (av_ixT (av_var (i := 0) rfl (.inl rfl) rfl) av_int rfl) (log_lt hq.num (by omega) hm0)) av_str (Nat.le_of_lt (small_sz (show (tx q.num).length + 1 < 2000000 by omega)))) (av_strI rfl T.m_str (av_ixT (av_var (i := 0) rfl (.inl rfl) rfl) av_int rfl) (log_lt hq.den (by omega) hm0)) (Nat.le_of_lt (small_sz (by rw [h3]; omega)))) hk
def ct__law_point_text : Ct := fun ds A k _ => ∃ (p : Pt) (m : Nat), ds = [pt p] ∧ (SzP m p) ∧ (m ≤ 1900) ∧ (0 < m) ∧ k (.str (ptT p)) A
theorem ok__law_point_text (T : Txt K mg) : Fn P w K mg base "_law_point_text" 2 ct__law_point_text := by
  refine fn_mk T.d__law_point_text sc__law_point_text (fun ds A k e h => ?_) fun f cdv A0 outer s H E hr hp htk ds A kk ee h => ?_
  · obtain ⟨p, m, rfl, _⟩ := h; rfl
  obtain ⟨p, m, rfl, hq, hm, hm0, hk⟩ := h
  have h1 := shT_len hm0 hq.1
  have h2 := shT_len hm0 hq.2
  have h3 : (shT p.1 ++ ",").length = (shT p.1).length + 1 := by rw [TL.len_tl, TL.tl_append, List.length_append, ← TL.len_tl]; rfl
  refine as_retv (av_catS (av_catS (AE.av (ae_call (ok__law_share_text T) (hr.mono (by decide)) rfl (AVs.aes (avs_c (av_ixT (av_var (i := 0) rfl (.inl rfl) rfl) av_int rfl) avs_nil) ⟨_, m, rfl, hq.1, hm, hm0, ⟨rfl, Ext.refl _⟩⟩))) av_str (Nat.le_of_lt (small_sz (show (shT p.1).length + 1 < 2000000 by omega)))) (AE.av (ae_call (ok__law_share_text T) (hr.mono (by decide)) rfl (AVs.aes (avs_c (av_ixT (av_var (i := 0) rfl (.inl rfl) rfl) av_int rfl) avs_nil) ⟨_, m, rfl, hq.2, hm, hm0, ⟨rfl, Ext.refl _⟩⟩))) (Nat.le_of_lt (small_sz (by rw [h3]; omega)))) hk
def ct__law_curve_text : Ct := fun ds A k _ => ∃ (d_row : D) (row : List Pt) (m : Nat), ds = [d_row] ∧ (IsL A d_row (row.map pt)) ∧ (∀ p ∈ row, SzP m p) ∧ (m ≤ 1900) ∧ (0 < m) ∧ (row.length ≤ 64) ∧ k (.str (cvT row)) A
theorem ok__law_curve_text (T : Txt K mg) : Fn P w K mg base "_law_curve_text" 3 ct__law_curve_text := by
  refine fn_mk T.d__law_curve_text sc__law_curve_text (fun ds A k e h => ?_) fun f cdv A0 outer s H E hr hp htk ds A kk ee h => ?_
  · obtain ⟨d_row, row, m, rfl, _⟩ := h; rfl
  obtain ⟨d_row, row, m, rfl, hL_row, hz, hm, hm0, hl, hk⟩ := h
  have hln : ∀ x ∈ row.map ptT, x.length ≤ 7700 := fun x hx => by
    obtain ⟨p, hp, rfl⟩ := List.mem_map.mp hx
    have := ptT_len hm0 (hz p hp)
    omega
  have hsm := sum_len hln
  rw [List.length_map] at hsm
  refine as_retv (av_join (ys := row.map ptT) av_str (AV.is (av_lcF rfl sc__law_curve_text.nd (blkOk_by rfl) (own := [("_law_place_here", 1)]) (is := [1]) (f := D.str) (F := fun i => ptT (gp row i)) (by decide) (ai_D ((0, 0) : Pt) (f := pt) (av_var (i := 0) rfl (.inl rfl) rfl) (by walk_at "il") ⟨rfl, rfl, (Nat.le_of_lt (small1000 (by omega))), (fun _ x => (by walk_at "ilx")), fun i hi => ⟨_, fun s H C cl fp => ⟨(ag_name (i := 1) sc__law_curve_text.nd rfl (.inl rfl)), fun A' x => (AE.av (ae_call (ok__law_point_text T) (hr.mono (by decide)) rfl (AVs.aes (avs_c (av_var (i := 1) rfl (.inl rfl) rfl) avs_nil) ⟨_, m, rfl, hz _ (gp_mem hi), hm, hm0, ⟨rfl, Ext.refl _⟩⟩)))⟩⟩⟩)) (show _ = D.fz ((row.map ptT).map D.str) by rw [← map_range_get row ((0, 0) : Pt) ptT]; rfl)) IsL.fz (by rw [List.length_map]; have e1 : ((" " : Str)).length = 1 := rfl; rw [e1]; omega)) hk
abbrev Vl := Int × List Ip
abbrev Bk := List (Str × Vl)
def rowV (v : Vl) : List Pt := v.2.map (ptC v.1)
def valL (v : Vl) : D := .tup [.int v.1, .fz (v.2.map ip)]
def deskB (L : Bk) : List (Str × List Pt) := L.map fun q => (q.1, rowV q.2)
def lawA (L : Bk) : List (Str × D) := L.map fun q => (q.1, valL q.2)
def putL (L : Bk) (n : Str) (v : Vl) : Bk := if (L.any fun q => decide (q.1 = n)) = true then L.map (fun q => if q.1 = n then (q.1, v) else q) else L ++ [(n, v)]
def lkL (L : Bk) (n : Str) : Option Vl := (L.find? fun q => decide (q.1 = n)).map (·.2)
theorem putL_desk (L : Bk) (n : Str) (v : Vl) : putB (deskB L) n (rowV v) = deskB (putL L n v) := by
  unfold putB putL deskB
  have e : ((L.map fun q => (q.1, rowV q.2)).any fun q => decide (q.1 = n)) = L.any fun q => decide (q.1 = n) := by rw [List.any_map]; rfl
  rw [e]
  split
  · rw [List.map_map, List.map_map]
    refine List.map_congr_left fun q _ => ?_
    by_cases h : q.1 = n <;> simp [h]
  · rw [List.map_append]; rfl
theorem putL_law (L : Bk) (n : Str) (v : Vl) : putS (lawA L) n (valL v) = lawA (putL L n v) := by
  unfold putS putL lawA
  have e : ((L.map fun q => (q.1, valL q.2)).any fun q => decide (q.1 = n)) = L.any fun q => decide (q.1 = n) := by rw [List.any_map]; rfl
  rw [e]
  split
  · rw [List.map_map, List.map_map]
    refine List.map_congr_left fun q _ => ?_
    by_cases h : q.1 = n <;> simp [h]
  · rw [List.map_append]; rfl
theorem lkL_desk (L : Bk) (n : Str) : lkB (deskB L) n = (lkL L n).map rowV := by
  unfold lkB lkL deskB
  rw [List.find?_map, Option.map_map, Option.map_map]
  rfl
theorem lkL_law (L : Bk) (n : Str) : lkS (lawA L) n = (lkL L n).map valL := by
  unfold lkS lkL lawA
  rw [List.find?_map, Option.map_map, Option.map_map]
  rfl
theorem names_desk (L : Bk) : (deskB L).map (·.1) = L.map (·.1) := by unfold deskB; rw [List.map_map]; rfl
theorem names_law (L : Bk) : (lawA L).map (·.1) = L.map (·.1) := by unfold lawA; rw [List.map_map]; rfl
structure EntOk (v : Vl) : Prop where
  b0 : 0 < v.1
  b1 : v.1 ≤ 1000000007
  l0 : 0 < v.2.length
  l1 : v.2.length ≤ 6
  bd : Bdl 101 v.2
def BkOk (L : Bk) : Prop := ∀ q ∈ L, NameL (TL.tl q.1) ∧ EntOk q.2
theorem putL_ok {L : Bk} {n : Str} {v : Vl} (h : BkOk L) (hn : NameL (TL.tl n)) (hv : EntOk v) : BkOk (putL L n v) := fun q hq => by
  unfold putL at hq
  split at hq
  · obtain ⟨r, hr, rfl⟩ := List.mem_map.mp hq
    by_cases e : r.1 = n
    · rw [if_pos e]; exact ⟨(h r hr).1, hv⟩
    · rw [if_neg e]; exact h r hr
  · rcases List.mem_append.mp hq with hq | hq
    · exact h q hq
    · rw [List.mem_singleton.mp hq]; exact ⟨hn, hv⟩
theorem putL_len (L : Bk) (n : Str) (v : Vl) : (putL L n v).length ≤ L.length + 1 ∧ 0 < (putL L n v).length := by
  unfold putL
  split
  · rename_i h
    rw [List.length_map]
    refine ⟨by omega, ?_⟩
    cases L with
    | nil => simp at h
    | cons => simp
  · rw [List.length_append]; simp
theorem lkL_mem {L : Bk} {n : Str} (h : n ∈ L.map (·.1)) : ∃ v, lkL L n = some v ∧ (n, v) ∈ L := by
  obtain ⟨q, hq, rfl⟩ := List.mem_map.mp h
  have h1 : (L.find? fun r => decide (r.1 = q.1)).isSome = true := by
    rw [List.find?_isSome]
    exact ⟨q, hq, by simp⟩
  obtain ⟨r, hr⟩ := Option.isSome_iff_exists.mp h1
  have h2 : r.1 = q.1 := of_decide_eq_true (show decide (r.1 = q.1) = true from List.find?_some (p := fun r : Str × Vl => decide (r.1 = q.1)) hr)
  refine ⟨r.2, by unfold lkL; rw [hr]; rfl, ?_⟩
  rw [← h2]
  exact List.mem_of_find?_eq_some hr
theorem EntOk.rw {v : Vl} (h : EntOk v) : Rw 101 (rowV v) := rw_ptC h.b0 (by have := h.b0; have := h.b1; omega) h.bd
theorem EntOk.len {v : Vl} (h : EntOk v) : 0 < (rowV v).length ∧ (rowV v).length ≤ 6 := by
  unfold rowV
  rw [List.length_map]
  exact ⟨h.l0, h.l1⟩
theorem EntOk.sz {v : Vl} (h : EntOk v) : ∀ p ∈ rowV v, SzP 101 p := h.rw.sz
theorem EntOk.fg {v : Vl} (h : EntOk v) : ∀ p ∈ rowV v, FgP p := fun p hp => ⟨fg_sz (h.sz p hp).1 (by decide), fg_sz (h.sz p hp).2 (by decide)⟩
/-- the heap with a book of the desk and the law's at it -/
def putH (A : AH) (q b : Addr) (L : Bk) : AH := aupd (aupd A q (dkS (lawA L))) b (dkS (bookA (deskB L)))
structure Wd (C : Addr) (A : AH) (p b q : Addr) (L : Bk) : Prop where
  dk : IsDesk C A p b (deskB L)
  lw : A q = some (dkS (lawA L))
  ne : q ≠ b
theorem Wd.qp {C : Addr} {A : AH} {p b q : Addr} {L : Bk} (h : Wd C A p b q L) : p ≠ q := fun e => by
  obtain ⟨y, h1⟩ := h.dk.at_
  rw [e, h.lw] at h1
  cases h1
theorem Wd.put {C : Addr} {A : AH} {p b q : Addr} {L : Bk} (h : Wd C A p b q L) (L' : Bk) : Wd C (putH A q b L') p b q L' :=
  ⟨⟨let ⟨y, e⟩ := h.dk.at_; ⟨y, by unfold putH; rw [aupd_ne h.dk.ne, aupd_ne h.qp]; exact e⟩, aupd_same⟩, by unfold putH; rw [aupd_ne h.ne]; exact aupd_same, h.ne⟩
theorem Wd.same {C : Addr} {A : AH} {p b q : Addr} {L : Bk} (h : Wd C A p b q L) : putH A q b L = A := by
  unfold putH
  rw [aupd_self h.lw, aupd_self h.dk.bk]
theorem putH_putH {A : AH} {q b : Addr} (h : q ≠ b) (L L' : Bk) : putH (putH A q b L) q b L' = putH A q b L' := by
  unfold putH
  rw [aupd_comm (p := b) (q := q) (fun e => h e.symm), aupd_aupd, aupd_aupd]
theorem BkOk.names {L : Bk} (h : BkOk L) : ∀ r ∈ deskB L, r.1.length ≤ 1000 := fun r hr => by
  unfold deskB at hr
  obtain ⟨s, hs, rfl⟩ := List.mem_map.mp hr
  have := name_len (h s hs).1
  show s.1.length ≤ 1000
  omega
theorem deskB_len (L : Bk) : (deskB L).length = L.length := by unfold deskB; simp
theorem lawA_len (L : Bk) : (lawA L).length = L.length := by unfold lawA; simp
theorem box_eq {v : Vl} (h : EntOk v) : boxL (rowV v) = [(minI (v.2.map Prod.fst) : Rat) / (v.1 : Rat), (minI (v.2.map Prod.snd) : Rat) / (v.1 : Rat), (maxI (v.2.map Prod.fst) : Rat) / (v.1 : Rat), (maxI (v.2.map Prod.snd) : Rat) / (v.1 : Rat)] := by
  have h1 : (rowV v).map Prod.fst = (v.2.map Prod.fst).map fun n : Int => (n : Rat) / (v.1 : Rat) := by unfold rowV ptC; rw [List.map_map, List.map_map]; rfl
  have h2 : (rowV v).map Prod.snd = (v.2.map Prod.snd).map fun n : Int => (n : Rat) / (v.1 : Rat) := by unfold rowV ptC; rw [List.map_map, List.map_map]; rfl
  have l1 : 0 < (v.2.map Prod.fst).length := by rw [List.length_map]; exact h.l0
  have l2 : 0 < (v.2.map Prod.snd).length := by rw [List.length_map]; exact h.l0
  unfold boxL
  rw [h1, h2, least_min h.b0 l1 (fun _ => Iff.rfl), least_min h.b0 l2 (fun _ => Iff.rfl), great_max h.b0 l1 (fun _ => Iff.rfl), great_max h.b0 l2 (fun _ => Iff.rfl)]
theorem box_sz {v : Vl} (h : EntOk v) : ∀ q ∈ boxL (rowV v), Sz 101 q := fun q hq => by
  have l1 : 0 < (v.2.map Prod.fst).length := by rw [List.length_map]; exact h.l0
  have l2 : 0 < (v.2.map Prod.snd).length := by rw [List.length_map]; exact h.l0
  have f1 : ∀ x ∈ v.2.map Prod.fst, Sz 101 ((x : Rat) / (v.1 : Rat)) := fun x hx => by
    obtain ⟨z, hz, rfl⟩ := List.mem_map.mp hx
    exact (h.sz (ptC v.1 z) (List.mem_map_of_mem hz)).1
  have f2 : ∀ x ∈ v.2.map Prod.snd, Sz 101 ((x : Rat) / (v.1 : Rat)) := fun x hx => by
    obtain ⟨z, hz, rfl⟩ := List.mem_map.mp hx
    exact (h.sz (ptC v.1 z) (List.mem_map_of_mem hz)).2
  rw [box_eq h] at hq
  simp only [List.mem_cons, List.not_mem_nil, or_false] at hq
  rcases hq with rfl | rfl | rfl | rfl
  · exact f1 _ (minI_ok _ l1).1
  · exact f2 _ (minI_ok _ l2).1
  · exact f1 _ (maxI_ok _ l1).1
  · exact f2 _ (maxI_ok _ l2).1
/-- the points of the rows of a curve at a share stay small -/
theorem ent_iter {v : Vl} (h : EntOk v) {t : Rat} (hn : t.num.natAbs < 2 ^ 100) (hd : t.den < 2 ^ 4) : ∀ j, j ≤ 5 → ∀ p ∈ iterR t (rowV v) j, SzP 700 p := fun j hj p hp => by
  have hd0 : (0 : Int) < t.den := by have := t.den_pos; omega
  have hb := h.b0
  have hb1 := h.b1
  unfold rowV at hp
  rw [num_denI t, iterR_ptC (by omega) (by omega)] at hp
  have hbd := itI_bd (n := 100) hn (d := (t.den : Int)) (by omega) h.bd j
  have hpw : ((t.den : Int) ^ j).natAbs < 2 ^ 21 := by
    rw [Int.natAbs_pow]
    refine Nat.lt_of_le_of_lt (Nat.pow_le_pow_right (by omega) (show j ≤ 5 by omega)) ?_
    have h4 := Nat.pow_lt_pow_left hd (n := 5) (by decide)
    rw [← Nat.pow_mul] at h4
    exact Nat.lt_trans (by rw [Int.natAbs_natCast]; exact h4) (by decide)
  have hB0 : 0 < v.1 * (t.den : Int) ^ j := Int.mul_pos h.b0 (Int.pow_pos hd0)
  have hbb : v.1.natAbs < 2 ^ 30 := by omega
  exact (rw_ptC (m := 700) hB0 (bt_le (bt_mul hbb hpw) (by decide)) (hbd.up (by omega))).sz p hp
theorem ent_point {v : Vl} (h : EntOk v) {t : Rat} (hn : t.num.natAbs < 2 ^ 100) (hd : t.den < 2 ^ 4) : SzP 700 (pointR t (rowV v)) := by
  have hl := h.len
  have hlen : 0 < (iterR t (rowV v) ((rowV v).length - 1)).length := by
    rw [iterR_len]; omega
  unfold pointR
  exact ent_iter h hn hd ((rowV v).length - 1) (by omega) _ (gp_mem hlen)
def ct__law_box_due : Ct := fun ds A k _ => ∃ v : Vl, ds = [.fz (v.2.map ip), .int v.1] ∧ EntOk v ∧ k (.str (boxT (rowV v))) A
theorem ok__law_box_due (T : Txt K mg) : Fn P w K mg base "_law_box_due" 2 ct__law_box_due := by
  refine fn_mk T.d__law_box_due sc__law_box_due (fun ds A k e h => ?_) fun f cdv A0 outer s H E hr hp htk ds A kk ee h => ?_
  · obtain ⟨v, rfl, _⟩ := h; rfl
  obtain ⟨⟨b, pls⟩, rfl, hE, hk⟩ := h
  have hb0 : 0 < b := hE.b0
  have hb1 : b ≤ 1000000007 := hE.b1
  have hl0 : 0 < pls.length := hE.l0
  have hl : pls.length ≤ 6 := hE.l1
  have hbz : b.natAbs < 2 ^ 9000 := bt_le (show b.natAbs < 2 ^ 30 by omega) (by decide)
  refine AS.ro (ρ' := [some (.fz (pls.map ip)), some (.int b), none, none, none, none, none, none]) ?_
  refine as_setLcF (i := 2) rfl sc__law_box_due.nd rfl rfl (sw_true rfl rfl rfl rfl) (blkOk_by rfl) (Nat.le_of_ble_eq_true rfl) (own := [("_law_x", 5), ("_law_y", 6)]) (is := [5, 6]) (f := D.int) (F := fun i => (pls.getD i (0, 0)).1) (by decide) (ai_F ((0, 0) : Ip) (f := ip) (av_var (i := 0) rfl (.inl rfl) rfl) ⟨rfl, rfl, (Nat.le_of_lt (small1000 (by omega))), (fun _ x => trivial), fun i hi => ⟨_, fun s H C cl fp => ⟨(ag_tup rfl (ags_cons (ag_name (i := 5) sc__law_box_due.nd rfl (.inl rfl)) (ags_cons (ag_name (i := 6) sc__law_box_due.nd rfl (.inl rfl)) ags_nil))), fun A' x => (av_var (i := 5) rfl (.inl rfl) rfl)⟩⟩⟩) fun xs hxs => ?_
  refine AS.ro (ρ' := [some (.fz (pls.map ip)), some (.int b), some (.fz (xs.map D.int)), none, none, none, none, none]) ?_
  have hxs : xs = pls.map Prod.fst := by first | (rw [hxs]; exact map_range_get pls (0, 0) Prod.fst) | (subst hxs; exact map_range_get pls (0, 0) Prod.fst)
  refine as_setLcF (i := 3) rfl sc__law_box_due.nd rfl rfl (sw_true rfl rfl rfl rfl) (blkOk_by rfl) (Nat.le_of_ble_eq_true rfl) (own := [("_law_x", 5), ("_law_y", 6)]) (is := [5, 6]) (f := D.int) (F := fun i => (pls.getD i (0, 0)).2) (by decide) (ai_F ((0, 0) : Ip) (f := ip) (av_var (i := 0) rfl (.inl rfl) rfl) ⟨rfl, rfl, (Nat.le_of_lt (small1000 (by omega))), (fun _ x => trivial), fun i hi => ⟨_, fun s H C cl fp => ⟨(ag_tup rfl (ags_cons (ag_name (i := 5) sc__law_box_due.nd rfl (.inl rfl)) (ags_cons (ag_name (i := 6) sc__law_box_due.nd rfl (.inl rfl)) ags_nil))), fun A' x => (av_var (i := 6) rfl (.inl rfl) rfl)⟩⟩⟩) fun ys hys => ?_
  refine AS.ro (ρ' := [some (.fz (pls.map ip)), some (.int b), some (.fz (xs.map D.int)), some (.fz (ys.map D.int)), none, none, none, none]) ?_
  have hys : ys = pls.map Prod.snd := by first | (rw [hys]; exact map_range_get pls (0, 0) Prod.snd) | (subst hys; exact map_range_get pls (0, 0) Prod.snd)
  have hx0 : 0 < xs.length ∧ 0 < ys.length := by rw [hxs, hys, List.length_map, List.length_map]; exact ⟨hl0, hl0⟩
  refine as_set (i := 4) sc__law_box_due.nd rfl (.inl rfl) (AV.ae (av_lst (ds := ([minI xs, minI ys, maxI xs, maxI ys] : List Int).map D.int) (avs_c (av_minL rfl rfl T.m_min (av_var (i := 2) rfl (.inl rfl) rfl) hx0.1) (avs_c (av_minL rfl rfl T.m_min (av_var (i := 3) rfl (.inl rfl) rfl) hx0.2) (avs_c (av_maxL rfl rfl T.m_max (av_var (i := 2) rfl (.inl rfl) rfl) hx0.1) (avs_c (av_maxL rfl rfl T.m_max (av_var (i := 3) rfl (.inl rfl) rfl) hx0.2) avs_nil))))) ?_)
  refine AS.ro (ρ' := [some (.fz (pls.map ip)), some (.int b), some (.fz (xs.map D.int)), some (.fz (ys.map D.int)), some (.fz (([minI xs, minI ys, maxI xs, maxI ys] : List Int).map D.int)), none, none, none]) ?_
  have hbe : boxL (rowV (b, pls)) = ([minI xs, minI ys, maxI xs, maxI ys] : List Int).map fun n : Int => (n : Rat) / (b : Rat) := by rw [box_eq hE, hxs, hys]; rfl
  have hbs := box_sz hE
  rw [hbe] at hbs
  have hge : ∀ i, i < 4 → Sz 101 (((([minI xs, minI ys, maxI xs, maxI ys] : List Int).getD i 0 : Int) : Rat) / (b : Rat)) := fun i hi => hbs _ (List.mem_map.mpr ⟨_, getD_ll 0 (show i < ([minI xs, minI ys, maxI xs, maxI ys] : List Int).length from hi), rfl⟩)
  have hsm := sum_len (xs := (boxL (rowV (b, pls))).map shT) (b := 205) fun x hx => by
    obtain ⟨q, hq, rfl⟩ := List.mem_map.mp hx
    have := shT_len (by decide) (box_sz hE q hq)
    omega
  have hbl : (boxL (rowV (b, pls))).length = 4 := rfl
  rw [List.length_map, hbl] at hsm
  refine as_retv (av_join (ys := (boxL (rowV (b, pls))).map shT) av_str (AV.is (av_lcF rfl sc__law_box_due.nd (blkOk_by rfl) (own := [("_law_one", 7)]) (is := [7]) (f := D.str) (F := fun i => shT (((([minI xs, minI ys, maxI xs, maxI ys] : List Int).getD i 0 : Int) : Rat) / (b : Rat))) (by decide) (ai_F (0 : Int) (f := D.int) (av_var (i := 4) rfl (.inl rfl) rfl) ⟨rfl, rfl, (show 4 ≤ sizeLine by decide), (fun _ x => trivial), fun i hi => ⟨_, fun s H C cl fp => ⟨(ag_name (i := 7) sc__law_box_due.nd rfl (.inl rfl)), fun A' x => (AE.av (ae_call (ok__law_share_text T) (hr.mono (by decide)) rfl (AVs.aes (avs_c (AE.av (ae_call (ok__law_share T) (hr.mono (by decide)) rfl (AVs.aes (avs_c (av_var (i := 7) rfl (.inl rfl) rfl) (avs_c (av_var (i := 1) rfl (.inr (.inl rfl)) rfl) avs_nil)) ⟨_, _, rfl, hb0, hbz, ⟨rfl, Ext.refl _⟩⟩))) avs_nil) ⟨_, 101, rfl, hge i hi, by decide, by decide, ⟨rfl, Ext.refl _⟩⟩)))⟩⟩⟩)) (show _ = D.fz (((boxL (rowV (b, pls))).map shT).map D.str) by rw [hbe]; rfl)) IsL.fz (by rw [List.length_map, hbl]; have e1 : ((" " : Str)).length = 1 := rfl; rw [e1]; omega)) hk
def ct__law_point_due : Ct := fun ds A k _ => ∃ (v : Vl) (t : Rat), ds = [.fz (v.2.map ip), .int v.1, sh t] ∧ EntOk v ∧ t.num.natAbs < 2 ^ 100 ∧ t.den < 2 ^ 4 ∧ k (.str (ptT (pointR t (rowV v)))) A
theorem ok__law_point_due (T : Txt K mg) : Fn P w K mg base "_law_point_due" 3 ct__law_point_due := by
  refine fn_mk T.d__law_point_due sc__law_point_due (fun ds A k e h => ?_) fun f cdv A0 outer s H E hr hp htk ds A kk ee h => ?_
  · obtain ⟨v, t, rfl, _⟩ := h; rfl
  obtain ⟨⟨b, zs⟩, t, rfl, hE, hn, hd, hk⟩ := h
  have hb0 : 0 < b := hE.b0
  have hb1 : b ≤ 1000000007 := hE.b1
  have hl0 : 0 < zs.length := hE.l0
  have hl : zs.length ≤ 6 := hE.l1
  have hd0 : (0 : Int) < t.den := by have := t.den_pos; omega
  have hP := ent_point hE hn hd
  have hPe : pointR t (rowV (b, zs)) = ptC (b * (t.den : Int) ^ (zs.length - 1)) (gi (itI t.num (t.den : Int) zs (zs.length - 1)) 0) := by
    have h9 := pointR_ptC (b := b) (a := t.num) (d := (t.den : Int)) (by omega) (by omega) hl0
    rw [← num_denI t] at h9
    exact h9
  rw [hPe] at hk hP
  have hrl := rowsI_len t.num (t.den : Int) zs
  have hgl : (rowsI t.num (t.den : Int) zs).getD ((rowsI t.num (t.den : Int) zs).length - 1) [] = itI t.num (t.den : Int) zs (zs.length - 1) := by rw [hrl]; exact rowsI_get (by omega)
  have hil := itI_len t.num (t.den : Int) zs (zs.length - 1)
  have hpw : ((t.den : Int) ^ (zs.length - 1)).natAbs < 2 ^ 21 := by
    rw [Int.natAbs_pow]
    refine Nat.lt_of_le_of_lt (Nat.pow_le_pow_right (by omega) (show zs.length - 1 ≤ 5 by omega)) ?_
    have h4 := Nat.pow_lt_pow_left hd (n := 5) (by decide)
    rw [← Nat.pow_mul] at h4
    exact Nat.lt_trans (by rw [Int.natAbs_natCast]; exact h4) (by decide)
  have hbb : b.natAbs < 2 ^ 30 := by omega
  have hB0 : 0 < b * (t.den : Int) ^ (zs.length - 1) := Int.mul_pos hb0 (Int.pow_pos hd0)
  have hB9 : (b * (t.den : Int) ^ (zs.length - 1)).natAbs < 2 ^ 9000 := bt_le (bt_mul hbb hpw) (by decide)
  refine AS.ro (ρ' := [some (.fz (zs.map ip)), some (.int b), some (sh t), none, none]) ?_
  refine as_cons (a1_asg (is := [3, 4]) (AV.ae (AV.is (av_ixDN (f := ip) ((0, 0) : Ip) (av_ixDB (f := (fzs ip)) ([] : List Ip) (AE.av (ae_call (ok__law_rows T) (hr.mono (by decide)) rfl (AVs.aes (avs_c (av_var (i := 0) rfl (.inl rfl) rfl) (avs_c (AV.is (av_var (i := 2) rfl (.inl rfl) rfl) (show _ = ip (t.num, (t.den : Int)) from rfl)) avs_nil)) ⟨_, (t.num, (t.den : Int)), 101, 100, rfl, hl0, by omega, hE.bd, hn, by dsimp only; omega, by decide, by decide, ⟨rfl, Ext.refl _⟩⟩))) IsL.fz (av_neg av_int) (n := 1) rfl (by decide) (show 1 ≤ (rowsI t.num (t.den : Int) zs).length by omega)) IsL.fz av_int (n := 0) rfl (by rw [hgl]; omega)) (show _ = ip (gi (itI t.num (t.den : Int) zs (zs.length - 1)) 0) by unfold gi; rw [hgl])) ⟨_, (ag_tup rfl (ags_cons (ag_name (i := 3) sc__law_point_due.nd rfl (.inl rfl)) (ags_cons (ag_name (i := 4) sc__law_point_due.nd rfl (.inl rfl)) ags_nil))), ?_⟩))
  refine AS.ro (ρ' := [some (.fz (zs.map ip)), some (.int b), some (sh t), some (.int (gi (itI t.num (t.den : Int) zs (zs.length - 1)) 0).1), some (.int (gi (itI t.num (t.den : Int) zs (zs.length - 1)) 0).2)]) ?_
  refine as_set (i := 1) sc__law_point_due.nd rfl (.inl rfl) (AV.ae (av_mul (av_var (i := 1) rfl (.inl rfl) rfl) (AE.av (ae_call (ok__law_power T) (hr.mono (by decide)) rfl (AVs.aes (avs_c (av_ixT (av_var (i := 2) rfl (.inl rfl) rfl) av_int rfl) (avs_c (av_sub (av_lenD rfl T.m_len (av_var (i := 0) rfl (.inl rfl) rfl) IsL.fz) av_int) avs_nil)) ⟨_, zs.length - 1, (by rw [Int.ofNat_sub (by omega)]; rfl), by omega, by omega, ⟨rfl, Ext.refl _⟩⟩))) (mulx hbb hpw (by decide))) ?_)
  refine AS.ro (ρ' := [some (.fz (zs.map ip)), some (.int (b * (t.den : Int) ^ (zs.length - 1))), some (sh t), some (.int (gi (itI t.num (t.den : Int) zs (zs.length - 1)) 0).1), some (.int (gi (itI t.num (t.den : Int) zs (zs.length - 1)) 0).2)]) ?_
  exact as_retv (AE.av (ae_call (ok__law_point_text T) (hr.mono (by decide)) rfl (AVs.aes (avs_c (AV.is (av_tup (avs_c (AE.av (ae_call (ok__law_share T) (hr.mono (by decide)) rfl (AVs.aes (avs_c (av_var (i := 3) rfl (.inl rfl) rfl) (avs_c (av_var (i := 1) rfl (.inl rfl) rfl) avs_nil)) ⟨_, _, rfl, hB0, hB9, ⟨rfl, Ext.refl _⟩⟩))) (avs_c (AE.av (ae_call (ok__law_share T) (hr.mono (by decide)) rfl (AVs.aes (avs_c (av_var (i := 4) rfl (.inl rfl) rfl) (avs_c (av_var (i := 1) rfl (.inl rfl) rfl) avs_nil)) ⟨_, _, rfl, hB0, hB9, ⟨rfl, Ext.refl _⟩⟩))) avs_nil))) (tup_pt _ _)) avs_nil) ⟨_, 700, rfl, hP, by decide, by decide, ⟨rfl, Ext.refl _⟩⟩))) hk
theorem len_cat (x y : Str) : (x ++ y).length = x.length + y.length := by rw [TL.len_tl, TL.tl_append, List.length_append, ← TL.len_tl, ← TL.len_tl]
theorem x_tell (n : Str) : ("tell " : Str) ++ n = Str.join " " ["tell", n] := TL.ext_tl (by rw [TL.tl_append, TL.tl_join]; rfl)
theorem x_box (n : Str) : ("box " : Str) ++ n = Str.join " " ["box", n] := TL.ext_tl (by rw [TL.tl_append, TL.tl_join]; rfl)
theorem x_turn (n : Str) : ("turn " : Str) ++ n = Str.join " " ["turn", n] := TL.ext_tl (by rw [TL.tl_append, TL.tl_join]; rfl)
theorem x_point (n x : Str) : ("point " : Str) ++ n ++ (" " : Str) ++ x = Str.join " " ["point", n, x] := TL.ext_tl (by rw [TL.tl_append, TL.tl_append, TL.tl_append, TL.tl_join, List.append_assoc, List.append_assoc]; rfl)
theorem x_curve (n : Str) {row : List Pt} (h : 0 < row.length) : ("curve " : Str) ++ n ++ (" " : Str) ++ cvT row = Str.join " " ("curve" :: n :: row.map ptT) := TL.ext_tl (by
  obtain ⟨p, r, rfl⟩ : ∃ p r, row = p :: r := by cases row with | nil => cases h | cons p r => exact ⟨p, r, rfl⟩
  rw [TL.tl_append, TL.tl_append, TL.tl_append, TL.tl_join, List.append_assoc, List.append_assoc]
  show _ ++ (_ ++ (_ ++ TL.tl (Str.join " " _))) = _
  rw [TL.tl_join]
  rfl)
theorem sp_n {w n : Str} (hw : 32 ∉ TL.tl w) (hn : NameL (TL.tl n)) : Txt.split (Str.join " " [w, n]) " " = [w, n] := split_ws (by simp) fun x hx => by
  simp only [List.mem_cons, List.not_mem_nil, or_false] at hx
  rcases hx with rfl | rfl
  · exact hw
  · exact name_free hn
def cC0 : Ct := fun _ _ _ _ => False
theorem ok_cmp0 (T : Txt K mg) : Mt P w K mg base T.C_Desk "compared" 10 cC0 :=
  mt_mk T.d_Desk_compared sc_Desk_compared (fun ds A k e h => h.elim) fun f cdv A0 outer s H E hr hp htk ds A kk ee h => h.elim
abbrev ct_Desk_say (C N M : Addr) : Ct := ct_say C N M cC0 ct_Desk_asked (ct_Desk_changed C)
theorem ok_Desk_say (T : Txt K mg) (TW : TxW w T) : Mt P w K mg base T.C_Desk "say" 11 (ct_Desk_say T.C_Desk T.C_NoText T.C_NoName) :=
  ok_say T TW (by decide) (ok_cmp0 T) ((ok_Desk_asked T).up (by decide)) ((ok_Desk_changed T).up (by decide))
section
variable {C N M : Addr} {A : AH} {p b : Addr} {L : Bk} {k : AK} {e : Value → AH → Prop} {n : Str} {v : Vl}
theorem W_curve (hD : IsDesk C A p b (deskB L)) (hL : BkOk L) (hl : L.length < 64) (hn : NameL (TL.tl n)) (hv : EntOk v) (h : k (.str "ok") (aupd A b (dkS (bookA (deskB (putL L n v)))))) : ct_Desk_say C N M [.ref p, .str (("curve " : Str) ++ n ++ (" " : Str) ++ cvT (rowV v))] A k e := by
  have h1 := hv.len
  have h2 := cvT_len (m := 101) (by decide) hv.sz
  have h3 := name_len hn
  have k1 : (("curve " : Str)).length = 6 := rfl
  have k2 : ((" " : Str)).length = 1 := rfl
  have h4 : (rowV v).length * (4 * 101 + 8) ≤ 6 * (4 * 101 + 8) := Nat.mul_le_mul_right _ h1.2
  refine say_of (by simp only [len_cat, k1, k2]; omega) hD (by rw [deskB_len]; exact hl) hL.names ?_ (SayK_curve (n := n) (row := rowV v) ?_)
  · rw [x_curve n h1.1, split_ws (by simp)]
    · exact RowV_curve hn h1.1 (by omega) hv.fg
    · intro x hx
      rcases List.mem_cons.mp hx with rfl | hx
      · decide
      rcases List.mem_cons.mp hx with rfl | hx
      · exact name_free hn
      obtain ⟨q, _, rfl⟩ := List.mem_map.mp hx
      exact ptT_free q
  · rw [putL_desk]; exact h
theorem W_names (hD : IsDesk C A p b (deskB L)) (hL : BkOk L) (hl : L.length < 64) (h : k (.str (if L.isEmpty then "none" else Str.join " " (srtN (L.map (·.1))))) A) : ct_Desk_say C N M [.ref p, .str "names"] A k e := by
  refine say_of (by decide) hD (by rw [deskB_len]; exact hl) hL.names (w := "names") (ps := []) ?_ (SayK_names ?_)
  · have : Txt.split ("names" : Str) " " = [("names" : Str)] := by
      have h9 := split_ws (ws := [("names" : Str)]) (by simp) (by decide)
      have e9 : Str.join " " [("names" : Str)] = ("names" : Str) := TL.ext_tl (by rw [TL.tl_join]; rfl)
      rw [e9] at h9
      exact h9
    rw [this]
    exact RowV_0 (by decide)
  · have e9 : (deskB L).isEmpty = L.isEmpty := by unfold deskB; cases L <;> rfl
    rw [e9, names_desk]
    exact h
theorem W_tell (hD : IsDesk C A p b (deskB L)) (hL : BkOk L) (hl : L.length < 64) (hn : NameL (TL.tl n)) (hk : lkL L n = some v) (hv : EntOk v) (h : k (.str (cvT (rowV v))) A) : ct_Desk_say C N M [.ref p, .str (("tell " : Str) ++ n)] A k e := by
  have h1 := hv.len
  have h3 := name_len hn
  have k1 : (("tell " : Str)).length = 5 := rfl
  have hk2 : lkB (deskB L) n = some (rowV v) := by rw [lkL_desk, hk]; rfl
  refine say_of (by simp only [len_cat, k1]; omega) hD (by rw [deskB_len]; exact hl) hL.names ?_ (SayK_A (w := "tell") (sh := "n") (n := n) (ps := [.str n]) (row := rowV v) (by decide) (by decide) (knw_n hk2) rfl hk2 ?_)
  · rw [x_tell, sp_n (by decide) hn]
    exact RowV_n (by decide) hn
  · exact ⟨_, _, rowV v, _, _, rfl, .inl ⟨rfl, rfl⟩, fun q hq => ⟨(hv.sz q hq).1.up (by decide), (hv.sz q hq).2.up (by decide)⟩, h1.1, by omega, h⟩
theorem W_box (hD : IsDesk C A p b (deskB L)) (hL : BkOk L) (hl : L.length < 64) (hn : NameL (TL.tl n)) (hk : lkL L n = some v) (hv : EntOk v) (h : k (.str (boxT (rowV v))) A) : ct_Desk_say C N M [.ref p, .str (("box " : Str) ++ n)] A k e := by
  have h1 := hv.len
  have h3 := name_len hn
  have k1 : (("box " : Str)).length = 4 := rfl
  have hk2 : lkB (deskB L) n = some (rowV v) := by rw [lkL_desk, hk]; rfl
  refine say_of (by simp only [len_cat, k1]; omega) hD (by rw [deskB_len]; exact hl) hL.names ?_ (SayK_A (w := "box") (sh := "n") (n := n) (ps := [.str n]) (row := rowV v) (by decide) (by decide) (knw_n hk2) rfl hk2 ?_)
  · rw [x_box, sp_n (by decide) hn]
    exact RowV_n (by decide) hn
  · exact ⟨_, _, rowV v, _, _, rfl, .inr (.inl ⟨rfl, rfl, fun q hq => (box_sz hv q hq).up (by decide)⟩), fun q hq => ⟨(hv.sz q hq).1.up (by decide), (hv.sz q hq).2.up (by decide)⟩, h1.1, by omega, h⟩
theorem W_point {t : Rat} (hD : IsDesk C A p b (deskB L)) (hL : BkOk L) (hl : L.length < 64) (hn : NameL (TL.tl n)) (hk : lkL L n = some v) (hv : EntOk v) (ht : t.num.natAbs < 2 ^ 100) (hd : t.den < 2 ^ 4) (h : k (.str (ptT (pointR t (rowV v)))) A) : ct_Desk_say C N M [.ref p, .str (("point " : Str) ++ n ++ (" " : Str) ++ shT t)] A k e := by
  have h1 := hv.len
  have h3 := name_len hn
  have k1 : (("point " : Str)).length = 6 := rfl
  have k2 : ((" " : Str)).length = 1 := rfl
  have hk2 : lkB (deskB L) n = some (rowV v) := by rw [lkL_desk, hk]; rfl
  have hz : Sz 100 t := ⟨ht, by omega⟩
  have h5 := shT_len (by decide) hz
  refine say_of (by simp only [len_cat, k1, k2]; omega) hD (by rw [deskB_len]; exact hl) hL.names ?_ (SayK_A (w := "point") (sh := "ns") (n := n) (ps := [.str n, sh t]) (row := rowV v) (by decide) (by decide) (knw_ns hk2) rfl hk2 ?_)
  · rw [x_point, split_ws (by simp)]
    · exact RowV_ns (by decide) hn (fg_sz hz (by decide))
    · intro x hx
      simp only [List.mem_cons, List.not_mem_nil, or_false] at hx
      rcases hx with rfl | rfl | rfl
      · decide
      · exact name_free hn
      · exact shT_free t
  · have hit := ent_iter hv ht hd
    have hpt := ent_point hv ht hd
    exact ⟨_, _, rowV v, _, _, rfl, .inr (.inr ⟨rfl, t, _, rfl, hz.up (by decide), fun j hj q hq => ⟨(hit j (by omega) q hq).1.up (by decide), (hit j (by omega) q hq).2.up (by decide)⟩, ⟨hpt.1.up (by decide), hpt.2.up (by decide)⟩, rfl⟩), fun q hq => ⟨(hv.sz q hq).1.up (by decide), (hv.sz q hq).2.up (by decide)⟩, h1.1, by omega, h⟩
theorem W_turn (hD : IsDesk C A p b (deskB L)) (hL : BkOk L) (hl : L.length < 64) (hn : NameL (TL.tl n)) (hk : lkL L n = some v) (hv : EntOk v) (h : k (.str "ok") (aupd A b (dkS (bookA (deskB (putL L n (v.1, v.2.reverse))))))) : ct_Desk_say C N M [.ref p, .str (("turn " : Str) ++ n)] A k e := by
  have h1 := hv.len
  have h3 := name_len hn
  have k1 : (("turn " : Str)).length = 5 := rfl
  have hk2 : lkB (deskB L) n = some (rowV v) := by rw [lkL_desk, hk]; rfl
  refine say_of (by simp only [len_cat, k1]; omega) hD (by rw [deskB_len]; exact hl) hL.names ?_ (SayK_H (w := "turn") (sh := "n") (n := n) (ps := [.str n]) (row := rowV v) (by decide) (by decide) (by decide) (by decide) (by decide) (knw_n hk2) rfl hk2 ?_)
  · rw [x_turn, sp_n (by decide) hn]
    exact RowV_n (by decide) hn
  · refine ⟨p, b, _, n, rowV v, rfl, hD, by rw [deskB_len]; omega, h1.1, by omega, ?_⟩
    have e9 : (rowV v).reverse = rowV (v.1, v.2.reverse) := by unfold rowV; rw [List.map_reverse]
    rw [e9, putL_desk]
    exact h
end
def toldV (c : Int) : Vl := ((wayC (stC c 0 + c)).1, ((List.range (1 + stC c 2 % 6).toNat).map (stC (stC c 1))).map fun o => placeC (wayC (stC c 0 + c)) (o * o + stC c 1))
theorem toldV_ok (c : Int) : EntOk (toldV c) := by
  have hw := wayC_ok (stC c 0 + c)
  have h0 : 0 ≤ stC c 2 % 6 ∧ stC c 2 % 6 < 6 := by omega
  refine ⟨hw.b0, hw.b1, ?_, ?_, fun z hz => ?_⟩
  · show 0 < (List.map _ (List.map _ _)).length
    rw [List.length_map, List.length_map, List.length_range]; omega
  · show (List.map _ (List.map _ _)).length ≤ 6
    rw [List.length_map, List.length_map, List.length_range]; omega
  · obtain ⟨o, _, rfl⟩ := List.mem_map.mp hz
    exact placeC_bd hw _
def ct__law_told (C : Addr) : Ct := fun ds A k _ => ∃ (p b q : Addr) (L : Bk) (n : Str) (c : Int), ds = [.ref p, .ref q, .str n, .int c] ∧ Wd C A p b q L ∧ BkOk L ∧ L.length < 63 ∧ NameL (TL.tl n) ∧ k (.bl true) (putH A q b (putL L n (toldV c)))
theorem row3 (c : Int) {m i : Nat} (h : i < m) : ((List.range m).map (stC c)).getD i 0 = stC c i := by
  rw [List.getD_eq_getElem?_getD, List.getElem?_map, List.getElem?_range h]; rfl
theorem ok__law_told (T : Txt K mg) (TW : TxW w T) : Fn P w K mg base "_law_told" 12 (ct__law_told T.C_Desk) := by
  refine fn_mk T.d__law_told sc__law_told (fun ds A k e h => ?_) fun f cdv A0 outer s H E hr hp htk ds A kk ee h => ?_
  · obtain ⟨p, b, q, L, n, c, rfl, _⟩ := h; rfl
  obtain ⟨p, b, q, L, n, c, rfl, hW, hB, hl, hn, hk⟩ := h
  have hv := toldV_ok c
  have hw := wayC_ok (stC c 0 + c)
  have k1 : (("curve " : Str)).length = 6 := rfl
  have k2 : ((" " : Str)).length = 1 := rfl
  have h3 := name_len hn
  have h1 := hv.len
  have h2 := cvT_len (m := 101) (by decide) hv.sz
  have h4 : (rowV (toldV c)).length * (4 * 101 + 8) ≤ 6 * (4 * 101 + 8) := Nat.mul_le_mul_right _ h1.2
  obtain ⟨W, hWd⟩ : ∃ W, W = wayC (stC c 0 + c) := ⟨_, rfl⟩
  have htv : toldV c = (W.1, ((List.range (1 + stC c 2 % 6).toNat).map (stC (stC c 1))).map fun o => placeC W (o * o + stC c 1)) := by rw [hWd]; rfl
  have hok : WyOk W := by rw [hWd]; exact hw
  refine as_set (i := 4) sc__law_told.nd rfl (.inl rfl) (AV.ae (AE.av (ae_call (ok__law_stream T) (hr.mono (by decide)) rfl (AVs.aes (avs_c (av_var (i := 3) rfl (.inl rfl) rfl) (avs_c av_int avs_nil)) ⟨_, 3, rfl, by decide, ⟨rfl, Ext.refl _⟩⟩))) ?_)
  refine AS.ro (ρ' := [some (.ref p), some (.ref q), some (.str n), some (.int c), some (.fz (((List.range 3).map (stC c)).map D.int)), none, none]) ?_
  refine as_set (i := 5) sc__law_told.nd rfl (.inl rfl) (AV.ae (AE.av (d := .tup [D.int W.1, D.int W.2.1, ip W.2.2.1, ip W.2.2.2]) (ae_call (ok__law_way T) (hr.mono (by decide)) rfl (AVs.aes (avs_c (av_add (AV.is (av_ixDN (f := D.int) (0 : Int) (av_var (i := 4) rfl (.inl rfl) rfl) IsL.fz av_int (n := 0) rfl (by simp)) (show _ = D.int (stC c 0) by rw [row3 c (by decide)])) (av_var (i := 3) rfl (.inl rfl) rfl)) avs_nil) ⟨_, rfl, ⟨by rw [hWd], Ext.refl _⟩⟩))) ?_)
  refine AS.ro (ρ' := [some (.ref p), some (.ref q), some (.str n), some (.int c), some (.fz (((List.range 3).map (stC c)).map D.int)), some (.tup [D.int W.1, D.int W.2.1, ip W.2.2.1, ip W.2.2.2]), none]) ?_
  refine as_set (i := 6) sc__law_told.nd rfl (.inl rfl) (AV.ae (AE.av (d := .fz ((toldV c).2.map ip)) (ae_call (ok__law_seats T) (hr.mono (by decide)) rfl (AVs.aes (avs_c (AV.is (av_ixDN (f := D.int) (0 : Int) (av_var (i := 4) rfl (.inl rfl) rfl) IsL.fz av_int (n := 1) rfl (by simp)) (show _ = D.int (stC c 1) by rw [row3 c (by decide)])) (avs_c (av_add av_int (av_mod (AV.is (av_ixDN (f := D.int) (0 : Int) (av_var (i := 4) rfl (.inl rfl) rfl) IsL.fz av_int (n := 2) rfl (by simp)) (show _ = D.int (stC c 2) by rw [row3 c (by decide)])) av_int (by decide))) (avs_c (av_var (i := 5) rfl (.inl rfl) rfl) avs_nil))) ⟨_, (1 + stC c 2 % 6).toNat, W, (by rw [Int.toNat_of_nonneg (by omega)]), by omega, hok, ⟨by rw [htv], Ext.refl _⟩⟩))) ?_)
  refine AS.ro (ρ' := [some (.ref p), some (.ref q), some (.str n), some (.int c), some (.fz (((List.range 3).map (stC c)).map D.int)), some (.tup [D.int W.1, D.int W.2.1, ip W.2.2.1, ip W.2.2.2]), some (.fz ((toldV c).2.map ip))]) ?_
  refine as_cons (a1_setS hr (AV.is (av_tup (avs_c (AV.is (av_ixT (av_var (i := 5) rfl (.inl rfl) rfl) av_int rfl) (show _ = D.int (toldV c).1 by rw [htv])) (avs_c (av_var (i := 6) rfl (.inl rfl) rfl) avs_nil))) (show _ = valL (toldV c) from rfl)) (av_var (i := 1) rfl (.inl rfl) rfl) (av_var (i := 2) rfl (.inl rfl) rfl) hW.lw (small1000 (by rw [lawA_len]; omega)) ?_)
  rw [putL_law]
  have hD2 : IsDesk T.C_Desk (aupd A q (dkS (lawA (putL L n (toldV c))))) p b (deskB L) := ⟨let ⟨y, e⟩ := hW.dk.at_; ⟨y, by rw [aupd_ne hW.qp]; exact e⟩, by rw [aupd_ne (fun e => hW.ne e.symm)]; exact hW.dk.bk⟩
  obtain ⟨y, hy⟩ := hD2.at_
  exact as_ret (ae_eqS (ae_mt (ok_Desk_say T TW) T.l_Desk.c (hr.mono (by decide)) (av_var (i := 0) rfl (.inl rfl) rfl) hy rfl (AVs.aes (avs_c (av_catS (av_catS (av_catS av_str (av_var (i := 2) rfl (.inl rfl) rfl) (Nat.le_of_lt (small_sz (by simp only [len_cat, k1, k2]; omega)))) av_str (Nat.le_of_lt (small_sz (by simp only [len_cat, k1, k2]; omega)))) (AE.av (ae_call (ok__law_curve_text T) (hr.mono (by decide)) rfl (AVs.aes (avs_c (AE.av (d := .fz ((rowV (toldV c)).map pt)) (ae_call (ok__law_handed T) (hr.mono (by decide)) rfl (AVs.aes (avs_c (av_var (i := 6) rfl (.inl rfl) rfl) (avs_c (AV.is (av_ixT (av_var (i := 5) rfl (.inl rfl) rfl) av_int rfl) (show _ = D.int (toldV c).1 by rw [htv])) avs_nil)) ⟨_, _, rfl, by have := hv.l1; omega, hv.b0, bt_le (show (toldV c).1.natAbs < 2 ^ 30 by have := hv.b0; have := hv.b1; omega) (by decide), ⟨rfl, Ext.refl _⟩⟩))) avs_nil) ⟨_, rowV (toldV c), 101, rfl, IsL.fz, hv.sz, by decide, by decide, by omega, ⟨rfl, Ext.refl _⟩⟩))) (Nat.le_of_lt (small_sz (by simp only [len_cat, k1, k2]; omega)))) avs_nil) (W_curve hD2 hB (by omega) hn hv ⟨_, rfl, AV.ae av_str ⟨_, rfl, hk⟩⟩))))
theorem frac_le {t b : Int} (hb : 0 < b) : ((t : Rat) / (b : Rat)).num.natAbs ≤ t.natAbs ∧ ((t : Rat) / (b : Rat)).den ≤ b.natAbs := by
  have hb0 : b ≠ 0 := by omega
  have e := num_mul hb0 (rfl : (t : Rat) / (b : Rat) = (t : Rat) / (b : Rat))
  have hd := den_pos ((t : Rat) / (b : Rat))
  have hc : Nat.Coprime ((t : Rat) / (b : Rat)).den ((t : Rat) / (b : Rat)).num.natAbs := ((t : Rat) / (b : Rat)).reduced.symm
  have e2 := congrArg Int.natAbs e
  rw [Int.natAbs_mul, Int.natAbs_mul, Int.natAbs_natCast] at e2
  obtain ⟨c, hcc⟩ : ((t : Rat) / (b : Rat)).den ∣ b.natAbs := hc.dvd_of_dvd_mul_left ⟨t.natAbs, by rw [e2, Nat.mul_comm]⟩
  have hc0 : 0 < c := by
    rcases Nat.eq_zero_or_pos c with h | h
    · rw [h, Nat.mul_zero] at hcc; omega
    · exact h
  have hd2 : 0 < ((t : Rat) / (b : Rat)).den := by omega
  have e3 : ((t : Rat) / (b : Rat)).num.natAbs * c = t.natAbs := by
    rw [hcc, Nat.mul_comm ((t : Rat) / (b : Rat)).den c, ← Nat.mul_assoc] at e2
    exact Nat.eq_of_mul_eq_mul_right hd2 e2
  exact ⟨by rw [← e3]; exact Nat.le_mul_of_pos_right _ hc0, by rw [hcc]; exact Nat.le_mul_of_pos_right _ hc0⟩
def ct__law_asked (C : Addr) : Ct := fun ds A k _ => ∃ (p b q : Addr) (L : Bk) (ns : List Str) (c : Int), ds = [.ref p, .ref q, .int c, .fz (ns.map D.str)] ∧ Wd C A p b q L ∧ BkOk L ∧ 0 < L.length ∧ L.length < 60 ∧ (∀ n ∈ ns, NameL (TL.tl n)) ∧ 0 < ns.length ∧ ns.length ≤ 100 ∧ ∀ L', BkOk L' → 0 < L'.length → L'.length ≤ L.length + 1 → k (.bl true) (putH A q b L')
theorem ok__law_asked (T : Txt K mg) (TW : TxW w T) : Fn P w K mg base "_law_asked" 13 (ct__law_asked T.C_Desk) := by
  refine fn_mk T.d__law_asked sc__law_asked (fun ds A k e h => ?_) fun f cdv A0 outer s H E hr hp htk ds A kk ee h => ?_
  · obtain ⟨p, b, q, L, ns, c, rfl, _⟩ := h; rfl
  obtain ⟨p, b, q, L, ns, c, rfl, hW, hB, hl0, hl, hns, hn0, hn1, hk⟩ := h
  obtain ⟨y, hy⟩ := hW.dk.at_
  have hkA : kk (.bl true) A := by
    have := hk L hB hl0 (by omega)
    rw [hW.same] at this
    exact this
  refine as_set (i := 4) sc__law_asked.nd rfl (.inl rfl) (AV.ae (AE.av (ae_call (ok__law_stream T) (hr.mono (by decide)) rfl (AVs.aes (avs_c (av_var (i := 2) rfl (.inl rfl) rfl) (avs_c av_int avs_nil)) ⟨_, 6, rfl, by decide, ⟨rfl, Ext.refl _⟩⟩))) ?_)
  refine AS.ro (ρ' := [some (.ref p), some (.ref q), some (.int c), some (.fz (ns.map D.str)), some (.fz (((List.range 6).map (stC c)).map D.int)), none, none, none, none, none, none]) ?_
  obtain ⟨th, hth⟩ : ∃ th, th = srtN (L.map (·.1)) := ⟨_, rfl⟩
  have htl : th.length = L.length := by rw [hth, srtN_len, List.length_map]
  have hti : 0 ≤ stC c 0 % (th.length : Int) ∧ stC c 0 % (th.length : Int) < (th.length : Int) := ⟨Int.emod_nonneg _ (by omega), Int.emod_lt_of_pos _ (by omega)⟩
  refine as_set (i := 5) sc__law_asked.nd rfl (.inl rfl) (AV.ae (AV.is (av_sortedN rfl rfl T.m_sorted (av_var (i := 1) rfl (.inl rfl) rfl) hW.lw (by rw [lawA_len]; omega)) (show _ = D.fz (th.map D.str) by rw [names_law, hth])) ?_)
  refine AS.ro (ρ' := [some (.ref p), some (.ref q), some (.int c), some (.fz (ns.map D.str)), some (.fz (((List.range 6).map (stC c)).map D.int)), some (.fz (th.map D.str)), none, none, none, none, none]) ?_
  obtain ⟨n, hn⟩ : ∃ n, n = th.getD (stC c 0 % (th.length : Int)).toNat default := ⟨_, rfl⟩
  have hnm : n ∈ th := by
    rw [hn, List.getD_eq_getElem?_getD, List.getElem?_eq_getElem (show (stC c 0 % (th.length : Int)).toNat < th.length by omega)]
    exact List.getElem_mem _
  obtain ⟨v, hlk, hvm⟩ := lkL_mem (L := L) (n := n) (srtN_mem (by rw [← hth]; exact hnm))
  obtain ⟨hN, hE⟩ := hB _ hvm
  have hN : NameL (TL.tl n) := hN
  have hE : EntOk v := hE
  have h1 := hE.len
  have h3 := name_len hN
  have hvb : v.1.natAbs < 2 ^ 9000 := bt_le (show v.1.natAbs < 2 ^ 30 by have := hE.b0; have := hE.b1; omega) (by decide)
  refine as_set (i := 6) sc__law_asked.nd rfl (.inl rfl) (AV.ae (AV.is (av_ixD (f := D.str) default (av_var (i := 5) rfl (.inl rfl) rfl) IsL.fz (av_mod (AV.is (av_ixDN (f := D.int) (0 : Int) (av_var (i := 4) rfl (.inl rfl) rfl) IsL.fz av_int (n := 0) rfl (by simp)) (show _ = D.int (stC c 0) by rw [row3 c (by decide)])) (av_lenD rfl T.m_len (av_var (i := 5) rfl (.inl rfl) rfl) IsL.fz) (by omega)) hti.1 hti.2) (show _ = D.str n by rw [hn])) ?_)
  refine AS.ro (ρ' := [some (.ref p), some (.ref q), some (.int c), some (.fz (ns.map D.str)), some (.fz (((List.range 6).map (stC c)).map D.int)), some (.fz (th.map D.str)), some (.str n), none, none, none, none]) ?_
  refine as_cons (a1_asg (is := [7, 8]) (AV.ae (av_ixS' hr (av_var (i := 1) rfl (.inl rfl) rfl) (av_var (i := 6) rfl (.inl rfl) rfl) hW.lw (d := valL v) (by rw [lkL_law, hlk]; rfl)) ⟨_, (ag_tup rfl (ags_cons (ag_name (i := 7) sc__law_asked.nd rfl (.inl rfl)) (ags_cons (ag_name (i := 8) sc__law_asked.nd rfl (.inl rfl)) ags_nil))), ?_⟩))
  refine AS.ro (ρ' := [some (.ref p), some (.ref q), some (.int c), some (.fz (ns.map D.str)), some (.fz (((List.range 6).map (stC c)).map D.int)), some (.fz (th.map D.str)), some (.str n), some (.int v.1), some (.fz (v.2.map ip)), none, none]) ?_
  refine as_set (i := 9) sc__law_asked.nd rfl (.inl rfl) (AV.ae (av_mod (AV.is (av_ixDN (f := D.int) (0 : Int) (av_var (i := 4) rfl (.inl rfl) rfl) IsL.fz av_int (n := 1) rfl (by simp)) (show _ = D.int (stC c 1) by rw [row3 c (by decide)])) av_int (by decide)) ?_)
  refine AS.ro (ρ' := [some (.ref p), some (.ref q), some (.int c), some (.fz (ns.map D.str)), some (.fz (((List.range 6).map (stC c)).map D.int)), some (.fz (th.map D.str)), some (.str n), some (.int v.1), some (.fz (v.2.map ip)), some (.int (stC c 1 % 6)), none]) ?_
  have k1 : (("tell " : Str)).length = 5 := rfl
  have k2 : ((" " : Str)).length = 1 := rfl
  have k3 : (("point " : Str)).length = 6 := rfl
  have k4 : (("box " : Str)).length = 4 := rfl
  have k5 : (("turn " : Str)).length = 5 := rfl
  refine as_if (at_eq (av_var (i := 9) rfl (.inl rfl) rfl) av_int) (fun hb => ?_) (fun hb => as_end ?_)
  · have hmi : 0 ≤ stC c 2 % (ns.length : Int) ∧ stC c 2 % (ns.length : Int) < (ns.length : Int) := ⟨Int.emod_nonneg _ (by omega), Int.emod_lt_of_pos _ (by omega)⟩
    obtain ⟨m, hm⟩ : ∃ m, m = ns.getD (stC c 2 % (ns.length : Int)).toNat default := ⟨_, rfl⟩
    have hmN : NameL (TL.tl m) := hns m (by
      rw [hm, List.getD_eq_getElem?_getD, List.getElem?_eq_getElem (show (stC c 2 % (ns.length : Int)).toNat < ns.length by omega)]
      exact List.getElem_mem _)
    have hpl := putL_len L m (toldV (stC c 3 + c))
    exact as_ret (ae_call (ok__law_told T TW) (hr.mono (by decide)) rfl (AVs.aes (avs_c (av_var (i := 0) rfl (.inl rfl) rfl) (avs_c (av_var (i := 1) rfl (.inl rfl) rfl) (avs_c (AV.is (av_ixD (f := D.str) default (av_var (i := 3) rfl (.inl rfl) rfl) IsL.fz (av_mod (AV.is (av_ixDN (f := D.int) (0 : Int) (av_var (i := 4) rfl (.inl rfl) rfl) IsL.fz av_int (n := 2) rfl (by simp)) (show _ = D.int (stC c 2) by rw [row3 c (by decide)])) (av_lenD rfl T.m_len (av_var (i := 3) rfl (.inl rfl) rfl) IsL.fz) (by omega)) hmi.1 hmi.2) (show _ = D.str m by rw [hm])) (avs_c (av_add (AV.is (av_ixDN (f := D.int) (0 : Int) (av_var (i := 4) rfl (.inl rfl) rfl) IsL.fz av_int (n := 3) rfl (by simp)) (show _ = D.int (stC c 3) by rw [row3 c (by decide)])) (av_var (i := 2) rfl (.inl rfl) rfl)) avs_nil)))) ⟨p, b, q, L, m, _, rfl, hW, hB, by omega, hmN, hk _ (putL_ok hB hmN (toldV_ok _)) hpl.2 hpl.1⟩))
  refine as_if (at_eq (av_var (i := 9) rfl (.inl rfl) rfl) av_int) (fun hb => ?_) (fun hb => as_end ?_)
  · exact as_retv (AV.is (av_eqS (AE.av (ae_mt (ok_Desk_say T TW) T.l_Desk.c (hr.mono (by decide)) (av_var (i := 0) rfl (.inl rfl) rfl) hy rfl (AVs.aes (avs_c (av_catS av_str (av_var (i := 6) rfl (.inl rfl) rfl) (Nat.le_of_lt (small_sz (by simp only [len_cat, k1, k2, k3, k4, k5]; omega)))) avs_nil) (W_tell hW.dk hB (by omega) hN hlk hE ⟨rfl, Ext.refl _⟩)))) (AE.av (ae_call (ok__law_curve_text T) (hr.mono (by decide)) rfl (AVs.aes (avs_c (AE.av (d := .fz ((rowV v).map pt)) (ae_call (ok__law_handed T) (hr.mono (by decide)) rfl (AVs.aes (avs_c (av_var (i := 8) rfl (.inl rfl) rfl) (avs_c (av_var (i := 7) rfl (.inl rfl) rfl) avs_nil)) ⟨_, _, rfl, by have := hE.l1; omega, hE.b0, hvb, ⟨rfl, Ext.refl _⟩⟩))) avs_nil) ⟨_, rowV v, 101, rfl, IsL.fz, hE.sz, by decide, by decide, by omega, ⟨rfl, Ext.refl _⟩⟩)))) (show _ = D.bl true by simp)) hkA
  refine as_if (at_eq (av_var (i := 9) rfl (.inl rfl) rfl) av_int) (fun hb => ?_) (fun hb => as_end ?_)
  · have hie : L.isEmpty = false := by cases L with | nil => cases hl0 | cons => rfl
    have hsl := sum_len (xs := th) (b := 12) fun x hx => by
      obtain ⟨v', _, hm9⟩ := lkL_mem (L := L) (n := x) (srtN_mem (by rw [← hth]; exact hx))
      exact name_len (hB _ hm9).1
    exact as_retv (AV.is (av_eqS (AE.av (ae_mt (ok_Desk_say T TW) T.l_Desk.c (hr.mono (by decide)) (av_var (i := 0) rfl (.inl rfl) rfl) hy rfl (AVs.aes (avs_c av_str avs_nil) (W_names hW.dk hB (by omega) ⟨rfl, Ext.refl _⟩)))) (av_join (ys := th) av_str (av_var (i := 5) rfl (.inl rfl) rfl) IsL.fz (by rw [k2]; omega))) (show _ = D.bl true by rw [hie, hth]; simp)) hkA
  refine as_if (at_eq (av_var (i := 9) rfl (.inl rfl) rfl) av_int) (fun hb => ?_) (fun hb => as_end ?_)
  · have hb2 : 0 ≤ stC c 4 % 2 ∧ stC c 4 % 2 < 2 := by omega
    obtain ⟨t0, ht0⟩ : ∃ t0, t0 = ([stC c 2 % 9 - 3, c % 10 ^ (30 : Int).toNat] : List Int).getD (stC c 4 % 2).toNat 0 := ⟨_, rfl⟩
    have ht0b : t0.natAbs < 2 ^ 100 := by
      have e30 : (10 : Int) ^ (30 : Int).toNat = 1000000000000000000000000000000 := by decide
      have e100 : (2 : Nat) ^ 100 = 1267650600228229401496703205376 := by decide
      have hz : (stC c 4 % 2).toNat = 0 ∨ (stC c 4 % 2).toNat = 1 := by omega
      rw [e100]
      rcases hz with hz | hz
      · have e : t0 = stC c 2 % 9 - 3 := by rw [ht0, hz]; rfl
        omega
      · have e : t0 = c % 10 ^ (30 : Int).toNat := by rw [ht0, hz]; rfl
        rw [e30] at e
        omega
    have hB0 : 0 < 1 + stC c 3 % 12 ∧ 1 + stC c 3 % 12 < 13 := by omega
    obtain ⟨t, ht⟩ : ∃ t : Rat, t = (t0 : Rat) / ((1 + stC c 3 % 12 : Int) : Rat) := ⟨_, rfl⟩
    have hfr := frac_le (t := t0) hB0.1
    rw [← ht] at hfr
    have hfn : t.num.natAbs < 2 ^ 100 := Nat.lt_of_le_of_lt hfr.1 ht0b
    have hfd : t.den < 2 ^ 4 := by omega
    have hzt : Sz 100 t := ⟨hfn, Nat.lt_trans (show ((t.den : Int)).natAbs < 2 ^ 4 by omega) (by decide)⟩
    have hst := shT_len (by decide) hzt
    refine as_set (i := 10) sc__law_asked.nd rfl (.inl rfl) (AV.ae (AE.av (d := sh t) (ae_call (ok__law_share T) (hr.mono (by decide)) rfl (AVs.aes (avs_c (AV.is (av_ixD (f := D.int) (0 : Int) (av_lst (ds := ([stC c 2 % 9 - 3, c % 10 ^ (30 : Int).toNat] : List Int).map D.int) (avs_c (av_sub (av_mod (AV.is (av_ixDN (f := D.int) (0 : Int) (av_var (i := 4) rfl (.inl rfl) rfl) IsL.fz av_int (n := 2) rfl (by simp)) (show _ = D.int (stC c 2) by rw [row3 c (by decide)])) av_int (by decide)) av_int) (avs_c (av_mod (av_var (i := 2) rfl (.inl rfl) rfl) (av_pow av_int av_int (by walk_at "sz")) (by decide)) avs_nil))) IsL.fz (av_mod (AV.is (av_ixDN (f := D.int) (0 : Int) (av_var (i := 4) rfl (.inl rfl) rfl) IsL.fz av_int (n := 4) rfl (by simp)) (show _ = D.int (stC c 4) by rw [row3 c (by decide)])) av_int (by decide)) hb2.1 (show _ < ((2 : Nat) : Int) by omega)) (show _ = D.int t0 by rw [ht0])) (avs_c (av_add av_int (av_mod (AV.is (av_ixDN (f := D.int) (0 : Int) (av_var (i := 4) rfl (.inl rfl) rfl) IsL.fz av_int (n := 3) rfl (by simp)) (show _ = D.int (stC c 3) by rw [row3 c (by decide)])) av_int (by decide))) avs_nil)) ⟨_, _, rfl, hB0.1, bt_le (show (1 + stC c 3 % 12).natAbs < 2 ^ 4 by omega) (by decide), ⟨by rw [ht], Ext.refl _⟩⟩))) ?_)
    refine AS.ro (ρ' := [some (.ref p), some (.ref q), some (.int c), some (.fz (ns.map D.str)), some (.fz (((List.range 6).map (stC c)).map D.int)), some (.fz (th.map D.str)), some (.str n), some (.int v.1), some (.fz (v.2.map ip)), some (.int (stC c 1 % 6)), some (sh t)]) ?_
    exact as_retv (AV.is (av_eqS (AE.av (ae_mt (ok_Desk_say T TW) T.l_Desk.c (hr.mono (by decide)) (av_var (i := 0) rfl (.inl rfl) rfl) hy rfl (AVs.aes (avs_c (av_catS (av_catS (av_catS av_str (av_var (i := 6) rfl (.inl rfl) rfl) (Nat.le_of_lt (small_sz (by simp only [len_cat, k1, k2, k3, k4, k5]; omega)))) av_str (Nat.le_of_lt (small_sz (by simp only [len_cat, k1, k2, k3, k4, k5]; omega)))) (AE.av (ae_call (ok__law_share_text T) (hr.mono (by decide)) rfl (AVs.aes (avs_c (av_var (i := 10) rfl (.inl rfl) rfl) avs_nil) ⟨_, 100, rfl, hzt, by decide, by decide, ⟨rfl, Ext.refl _⟩⟩))) (Nat.le_of_lt (small_sz (by simp only [len_cat, k1, k2, k3, k4, k5]; omega)))) avs_nil) (W_point hW.dk hB (by omega) hN hlk hE hfn hfd ⟨rfl, Ext.refl _⟩)))) (AE.av (ae_call (ok__law_point_due T) (hr.mono (by decide)) rfl (AVs.aes (avs_c (av_var (i := 8) rfl (.inl rfl) rfl) (avs_c (av_var (i := 7) rfl (.inl rfl) rfl) (avs_c (av_var (i := 10) rfl (.inl rfl) rfl) avs_nil))) ⟨v, t, rfl, hE, hfn, hfd, ⟨rfl, Ext.refl _⟩⟩)))) (show _ = D.bl true by simp)) hkA
  refine as_if (at_eq (av_var (i := 9) rfl (.inl rfl) rfl) av_int) (fun hb => ?_) (fun hb => as_end ?_)
  · exact as_retv (AV.is (av_eqS (AE.av (ae_mt (ok_Desk_say T TW) T.l_Desk.c (hr.mono (by decide)) (av_var (i := 0) rfl (.inl rfl) rfl) hy rfl (AVs.aes (avs_c (av_catS av_str (av_var (i := 6) rfl (.inl rfl) rfl) (Nat.le_of_lt (small_sz (by simp only [len_cat, k1, k2, k3, k4, k5]; omega)))) avs_nil) (W_box hW.dk hB (by omega) hN hlk hE ⟨rfl, Ext.refl _⟩)))) (AE.av (ae_call (ok__law_box_due T) (hr.mono (by decide)) rfl (AVs.aes (avs_c (av_var (i := 8) rfl (.inl rfl) rfl) (avs_c (av_var (i := 7) rfl (.inl rfl) rfl) avs_nil)) ⟨v, rfl, hE, ⟨rfl, Ext.refl _⟩⟩)))) (show _ = D.bl true by simp)) hkA
  have hE2 : EntOk (v.1, v.2.reverse) := ⟨hE.b0, hE.b1, by rw [List.length_reverse]; exact hE.l0, by rw [List.length_reverse]; exact hE.l1, fun z hz => hE.bd z (List.mem_reverse.mp hz)⟩
  have hpl := putL_len L n (v.1, v.2.reverse)
  refine as_cons (a1_setS hr (AV.is (av_tup (avs_c (av_var (i := 7) rfl (.inl rfl) rfl) (avs_c (av_rev (f := ip) (xs := v.2) (av_var (i := 8) rfl (.inl rfl) rfl) IsL.fz) avs_nil))) (show _ = valL (v.1, v.2.reverse) from rfl)) (av_var (i := 1) rfl (.inl rfl) rfl) (av_var (i := 6) rfl (.inl rfl) rfl) hW.lw (small1000 (by rw [lawA_len]; omega)) ?_)
  rw [putL_law]
  have hD2 : IsDesk T.C_Desk (aupd A q (dkS (lawA (putL L n (v.1, v.2.reverse))))) p b (deskB L) := ⟨let ⟨y, e⟩ := hW.dk.at_; ⟨y, by rw [aupd_ne hW.qp]; exact e⟩, by rw [aupd_ne (fun e => hW.ne e.symm)]; exact hW.dk.bk⟩
  obtain ⟨y2, hy2⟩ := hD2.at_
  exact as_ret (ae_eqS (ae_mt (ok_Desk_say T TW) T.l_Desk.c (hr.mono (by decide)) (av_var (i := 0) rfl (.inl rfl) rfl) hy2 rfl (AVs.aes (avs_c (av_catS av_str (av_var (i := 6) rfl (.inl rfl) rfl) (Nat.le_of_lt (small_sz (by simp only [len_cat, k1, k2, k3, k4, k5]; omega)))) avs_nil) (W_turn hD2 hB (by omega) hN hlk hE ⟨_, rfl, AV.ae av_str ⟨_, rfl, hk _ (putL_ok hB hN hE2) hpl.2 hpl.1⟩⟩))))
theorem putL_names {L : Bk} {n : Str} {v : Vl} : n ∈ (putL L n v).map (·.1) ∧ ∀ m ∈ L.map (·.1), m ∈ (putL L n v).map (·.1) := by
  have key : ∀ q : Str × Vl, (if q.1 = n then (q.1, v) else q).1 = q.1 := fun q => by split <;> rfl
  unfold putL
  split
  · rename_i h
    have e : ((L.map fun q => if q.1 = n then (q.1, v) else q).map (·.1)) = L.map (·.1) := by
      rw [List.map_map]
      exact List.map_congr_left fun q _ => key q
    rw [e]
    obtain ⟨q, hq, h1⟩ := List.any_eq_true.mp h
    exact ⟨List.mem_map.mpr ⟨q, hq, of_decide_eq_true h1⟩, fun m hm => hm⟩
  · rw [List.map_append]
    exact ⟨List.mem_append_right _ (by simp), fun m hm => List.mem_append_left _ hm⟩
def dkP (z : Addr × Addr) : D := .tup [.ref z.1, .ref z.2]
def ct__law_by_turns (C : Addr) : Ct := fun ds A k _ => ∃ (p b q p2 b2 : Addr) (L : Bk) (c : Int), ds = [.ref p, .ref p2, .ref q, .int c] ∧ Wd C A p b q L ∧ BkOk L ∧ L.length < 60 ∧ IsDesk C A p2 b2 (deskB []) ∧ b2 ≠ b ∧ b2 ≠ q ∧ ∀ A', k (.bl true) A'
theorem ok__law_by_turns (T : Txt K mg) (TW : TxW w T) : Fn P w K mg base "_law_by_turns" 13 (ct__law_by_turns T.C_Desk) := by
  refine fn_mk T.d__law_by_turns sc__law_by_turns (fun ds A k e h => ?_) fun f cdv A0 outer s H E hr hp htk ds A kk ee h => ?_
  · obtain ⟨p, b, q, p2, b2, L, c, rfl, _⟩ := h; rfl
  obtain ⟨p, b, q, p2, b2, L, c, rfl, hW, hB, hl, hD2, hbb, hbq, hk⟩ := h
  refine as_set (i := 4) sc__law_by_turns.nd rfl (.inl rfl) (ae_dictS fun z hz => ?_)
  refine AS.ro (ρ' := [some (.ref p), some (.ref p2), some (.ref q), some (.int c), some (.ref z), none, none, none, none, none, none]) ?_
  obtain ⟨y1, hy1⟩ := hW.dk.at_
  obtain ⟨y2, hy2⟩ := hD2.at_
  have zp : p ≠ z := fun e => by rw [e, hz] at hy1; cases hy1
  have zp2 : p2 ≠ z := fun e => by rw [e, hz] at hy2; cases hy2
  have zb : b ≠ z := fun e => by have := hW.dk.bk; rw [e, hz] at this; cases this
  have zb2 : b2 ≠ z := fun e => by have := hD2.bk; rw [e, hz] at this; cases this
  have zq : q ≠ z := fun e => by have := hW.lw; rw [e, hz] at this; cases this
  have pb2 : p ≠ b2 := fun e => by rw [e, hD2.bk] at hy1; cases hy1
  have hW2 : Wd T.C_Desk (aupd A z (dkS (lawA []))) p2 b2 z [] := ⟨⟨⟨y2, by rw [aupd_ne zp2]; exact hy2⟩, by rw [aupd_ne zb2]; exact hD2.bk⟩, aupd_same, fun e => zb2 e.symm⟩
  obtain ⟨A1, hA1⟩ : ∃ A1, A1 = aupd A z (dkS (lawA [])) := ⟨_, rfl⟩
  have e0 : aupd A z (dkS []) = A1 := hA1.symm
  rw [e0]
  rw [← hA1] at hW2
  have hW1 : ∀ M : Bk, Wd T.C_Desk (putH A1 z b2 M) p b q L := fun M => by
    subst hA1
    unfold putH
    exact ⟨⟨⟨y1, by rw [aupd_ne pb2, aupd_ne zp, aupd_ne zp]; exact hy1⟩, by rw [aupd_ne hbb.symm, aupd_ne zb, aupd_ne zb]; exact hW.dk.bk⟩, by rw [aupd_ne hbq.symm, aupd_ne zq, aupd_ne zq]; exact hW.lw, hW.ne⟩
  have hA1q : A1 q = some (dkS (lawA L)) := by rw [hA1, aupd_ne zq]; exact hW.lw
  obtain ⟨th, hth⟩ : ∃ th, th = srtN (L.map (·.1)) := ⟨_, rfl⟩
  have htl : th.length = L.length := by rw [hth, srtN_len, List.length_map]
  have hthm : ∀ i, i < th.length → th.getD i default ∈ L.map (·.1) := fun i hi => srtN_mem (by rw [← hth, List.getD_eq_getElem?_getD, List.getElem?_eq_getElem hi]; exact List.getElem_mem hi)
  have hthn : ∀ i, i < th.length → NameL (TL.tl (th.getD i default)) := fun i hi => by
    obtain ⟨v, _, hm⟩ := lkL_mem (hthm i hi)
    exact (hB _ hm).1
  refine as_cons (a1_for hp rfl (ai_enumF (default : Str) (f := D.str) rfl T.m_enumerate (AV.is (av_sortedN rfl rfl T.m_sorted (av_var (i := 2) rfl (.inl rfl) rfl) hA1q (by rw [lawA_len]; omega)) (show _ = D.fz (th.map D.str) by rw [names_law, hth])) ⟨fun i ρ A' => ∃ (y5 y6 : Option D) (M : Bk), ρ = [some (.ref p), some (.ref p2), some (.ref q), some (.int c), some (.ref z), y5, y6, none, none, none, none] ∧ A' = putH A1 z b2 M ∧ BkOk M ∧ M.length ≤ i ∧ (∀ j, j < i → th.getD j default ∈ M.map (·.1)), ⟨_, _, [], rfl, hW2.same.symm, (fun q hq => nomatch hq), Nat.le_refl _, fun j hj => absurd hj (Nat.not_lt_zero _)⟩, fun i ρ A' hle hI => trivial, fun i ρ A' hi hI => ⟨_, _, (ag_tup rfl (ags_cons (ag_name (i := 5) sc__law_by_turns.nd rfl (.inl rfl)) (ags_cons (ag_name (i := 6) sc__law_by_turns.nd rfl (.inl rfl)) ags_nil))), ?_⟩, fun ρ A' hI => ?_⟩))
  · skip
    obtain ⟨y5, y6, M, rfl, rfl, hM, hMl, hMn⟩ := hI
    refine AS.ro (ρ' := [some (.ref p), some (.ref p2), some (.ref q), some (.int c), some (.ref z), some (.int (i : Int)), some (.str (th.getD i default)), none, none, none, none]) ?_
    have hp9 := putL_names (L := M) (n := th.getD i default) (v := toldV (c + 31 * (i : Int) + 3))
    have hpl := putL_len M (th.getD i default) (toldV (c + 31 * (i : Int) + 3))
    refine as_cons (a1_if (aet_not (aet_val (ae_call (ok__law_told T TW) (hr.mono (by decide)) rfl (AVs.aes (avs_c (av_var (i := 1) rfl (.inl rfl) rfl) (avs_c (av_var (i := 4) rfl (.inl rfl) rfl) (avs_c (av_var (i := 6) rfl (.inl rfl) rfl) (avs_c (av_add (av_add (av_var (i := 3) rfl (.inl rfl) rfl) (av_mulS av_int (av_var (i := 5) rfl (.inl rfl) rfl) (.inl (by decide)))) av_int) avs_nil)))) ⟨p2, b2, z, M, th.getD i default, _, rfl, hW2.put M, hM, by omega, hthn i hi, ⟨true, rfl, fun h => (nomatch h), fun _ => as_nil ?_⟩⟩)))))
    rw [putH_putH (fun e => zb2 e.symm)]
    refine as_nil ⟨_, _, _, rfl, rfl, putL_ok hM (hthn i hi) (toldV_ok _), by omega, fun j hj => ?_⟩
    rcases Nat.lt_succ_iff_lt_or_eq.mp hj with hj | rfl
    · exact hp9.2 _ (hMn j hj)
    · exact hp9.1
  obtain ⟨y5, y6, M, rfl, rfl, hM, hMl, hMn⟩ := hI
  have hWM := hW2.put M
  have hWL := hW1 M
  refine as_cons (a1_for hp rfl (ai_F (default : Str) (f := D.str) (AV.is (av_sortedN rfl rfl T.m_sorted (av_var (i := 2) rfl (.inl rfl) rfl) hWL.lw (by rw [lawA_len]; omega)) (show _ = D.fz (th.map D.str) by rw [names_law, hth])) ⟨fun i ρ A' => ∃ (y6 y7 y8 y9 y10 : Option D), ρ = [some (.ref p), some (.ref p2), some (.ref q), some (.int c), some (.ref z), y5, y6, y7, y8, y9, y10] ∧ A' = putH A1 z b2 M, ⟨_, _, _, _, _, rfl, rfl⟩, fun i ρ A' hle hI => trivial, fun i ρ A' hi hI => ⟨_, _, (ag_name (i := 6) sc__law_by_turns.nd rfl (.inl rfl)), ?_⟩, fun ρ A' hI => ?_⟩))
  · skip
    obtain ⟨y6, y7, y8, y9, y10, rfl, rfl⟩ := hI
    refine AS.ro (ρ' := [some (.ref p), some (.ref p2), some (.ref q), some (.int c), some (.ref z), y5, some (.str (th.getD i default)), y7, y8, y9, y10]) ?_
    have hin1 : th.getD i default ∈ L.map (·.1) := hthm i hi
    have hin2 : th.getD i default ∈ M.map (·.1) := hMn i hi
    obtain ⟨n, hn⟩ : ∃ n, n = th.getD i default := ⟨_, rfl⟩
    rw [← hn] at hin1 hin2 ⊢
    have hN : NameL (TL.tl n) := by rw [hn]; exact hthn i hi
    have hpr : ∀ j, j < ([(p, q), (p2, z), (p, q)] : List (Addr × Addr)).length → ∃ (b' : Addr) (L' : Bk), Wd T.C_Desk (putH A1 z b2 M) (([(p, q), (p2, z), (p, q)] : List (Addr × Addr)).getD j (p, q)).1 b' (([(p, q), (p2, z), (p, q)] : List (Addr × Addr)).getD j (p, q)).2 L' ∧ BkOk L' ∧ L'.length < 62 ∧ n ∈ L'.map (·.1) := fun j hj => match j, hj with
      | 0, _ => ⟨b, L, hWL, hB, by omega, hin1⟩
      | 1, _ => ⟨b2, M, hWM, hM, by omega, hin2⟩
      | 2, _ => ⟨b, L, hWL, hB, by omega, hin1⟩
    refine as_cons (a1_for hp rfl (ai_F (p, q) (f := dkP) (av_lst (ds := ([(p, q), (p2, z), (p, q)] : List (Addr × Addr)).map dkP) (avs_c (AV.is (av_tup (avs_c (av_var (i := 0) rfl (.inl rfl) rfl) (avs_c (av_var (i := 2) rfl (.inl rfl) rfl) avs_nil))) (show _ = dkP (_, _) from rfl)) (avs_c (AV.is (av_tup (avs_c (av_var (i := 1) rfl (.inl rfl) rfl) (avs_c (av_var (i := 4) rfl (.inl rfl) rfl) avs_nil))) (show _ = dkP (_, _) from rfl)) (avs_c (AV.is (av_tup (avs_c (av_var (i := 0) rfl (.inl rfl) rfl) (avs_c (av_var (i := 2) rfl (.inl rfl) rfl) avs_nil))) (show _ = dkP (_, _) from rfl)) avs_nil)))) ⟨fun j ρ A' => ∃ (y7 y8 y9 y10 : Option D), ρ = [some (.ref p), some (.ref p2), some (.ref q), some (.int c), some (.ref z), y5, some (.str n), y7, y8, y9, y10] ∧ A' = putH A1 z b2 M, ⟨_, _, _, _, rfl, rfl⟩, fun j ρ A' hle hI => trivial, fun j ρ A' hj hI => ⟨_, _, (ag_tup rfl (ags_cons (ag_name (i := 7) sc__law_by_turns.nd rfl (.inl rfl)) (ags_cons (ag_name (i := 8) sc__law_by_turns.nd rfl (.inl rfl)) ags_nil))), ?_⟩, fun ρ A' hI => ?_⟩))
    · skip
      obtain ⟨y7, y8, y9, y10, rfl, rfl⟩ := hI
      obtain ⟨b', L', hX, hBX, hlX, hmX⟩ := hpr j hj
      obtain ⟨⟨pj, qj⟩, hpj⟩ : ∃ z', z' = ([(p, q), (p2, z), (p, q)] : List (Addr × Addr)).getD j (p, q) := ⟨_, rfl⟩
      rw [← hpj] at hX ⊢
      have hX : Wd T.C_Desk (putH A1 z b2 M) pj b' qj L' := hX
      obtain ⟨v, hlk, hvm⟩ := lkL_mem hmX
      have hE : EntOk v := (hBX _ hvm).2
      have h1 := hE.len
      have h3 := name_len hN
      have hvb : v.1.natAbs < 2 ^ 9000 := bt_le (show v.1.natAbs < 2 ^ 30 by have := hE.b0; have := hE.b1; omega) (by decide)
      obtain ⟨yj, hyj⟩ := hX.dk.at_
      have k1 : (("tell " : Str)).length = 5 := rfl
      have k4 : (("box " : Str)).length = 4 := rfl
      refine AS.ro (ρ' := [some (.ref p), some (.ref p2), some (.ref q), some (.int c), some (.ref z), y5, some (.str n), some (.ref pj), some (.ref qj), y9, y10]) ?_
      refine as_cons (a1_asg (is := [9, 10]) (AV.ae (av_ixS' hr (av_var (i := 8) rfl (.inl rfl) rfl) (av_var (i := 6) rfl (.inl rfl) rfl) hX.lw (d := valL v) (by rw [lkL_law, hlk]; rfl)) ⟨_, (ag_tup rfl (ags_cons (ag_name (i := 9) sc__law_by_turns.nd rfl (.inl rfl)) (ags_cons (ag_name (i := 10) sc__law_by_turns.nd rfl (.inl rfl)) ags_nil))), ?_⟩))
      refine AS.ro (ρ' := [some (.ref p), some (.ref p2), some (.ref q), some (.int c), some (.ref z), y5, some (.str n), some (.ref pj), some (.ref qj), some (.int v.1), some (.fz (v.2.map ip))]) ?_
      refine as_if (bb := false) (AT.is (at_neS (AE.av (ae_mt (ok_Desk_say T TW) T.l_Desk.c (hr.mono (by decide)) (av_var (i := 7) rfl (.inl rfl) rfl) hyj rfl (AVs.aes (avs_c (av_catS av_str (av_var (i := 6) rfl (.inl rfl) rfl) (Nat.le_of_lt (small_sz (by simp only [len_cat, k1, k4]; omega)))) avs_nil) (W_tell hX.dk hBX (by omega) hN hlk hE ⟨rfl, Ext.refl _⟩)))) (AE.av (ae_call (ok__law_curve_text T) (hr.mono (by decide)) rfl (AVs.aes (avs_c (AE.av (d := .fz ((rowV v).map pt)) (ae_call (ok__law_handed T) (hr.mono (by decide)) rfl (AVs.aes (avs_c (av_var (i := 10) rfl (.inl rfl) rfl) (avs_c (av_var (i := 9) rfl (.inl rfl) rfl) avs_nil)) ⟨_, _, rfl, by have := hE.l1; omega, hE.b0, hvb, ⟨rfl, Ext.refl _⟩⟩))) avs_nil) ⟨_, rowV v, 101, rfl, IsL.fz, hE.sz, by decide, by decide, by omega, ⟨rfl, Ext.refl _⟩⟩)))) (by simp)) (fun h => nomatch h) (fun _ => as_end ?_)
      refine as_if (bb := false) (AT.is (at_neS (AE.av (ae_mt (ok_Desk_say T TW) T.l_Desk.c (hr.mono (by decide)) (av_var (i := 7) rfl (.inl rfl) rfl) hyj rfl (AVs.aes (avs_c (av_catS av_str (av_var (i := 6) rfl (.inl rfl) rfl) (Nat.le_of_lt (small_sz (by simp only [len_cat, k1, k4]; omega)))) avs_nil) (W_box hX.dk hBX (by omega) hN hlk hE ⟨rfl, Ext.refl _⟩)))) (AE.av (ae_call (ok__law_box_due T) (hr.mono (by decide)) rfl (AVs.aes (avs_c (av_var (i := 10) rfl (.inl rfl) rfl) (avs_c (av_var (i := 9) rfl (.inl rfl) rfl) avs_nil)) ⟨v, rfl, hE, ⟨rfl, Ext.refl _⟩⟩)))) (by simp)) (fun h => nomatch h) (fun _ => as_end ?_)
      exact as_nil ⟨_, _, _, _, rfl, rfl⟩
    obtain ⟨y7, y8, y9, y10, rfl, rfl⟩ := hI
    exact as_nil ⟨_, _, _, _, _, rfl, rfl⟩
  obtain ⟨y6, y7, y8, y9, y10, rfl, rfl⟩ := hI
  exact as_retv av_bl (hk _)
/-- a new desk -/
theorem desk_new {C : Addr} {A : AH} {x y b : Addr} (hx : A x = none) (hb : aupd A x (.ins C y []) b = none) : ∃ A1, A1 = aupd (aupd (aupd A x (.ins C y [])) b (dkS [])) x (.ins C y [("book", .ref b)]) ∧ IsDesk C A1 x b (deskB []) ∧ Ext A A1 ∧ A x = none ∧ A b = none := by
  have hxb : b ≠ x := fun e => by rw [e, aupd_same] at hb; cases hb
  have hb0 : A b = none := by rw [aupd_ne hxb] at hb; exact hb
  refine ⟨_, rfl, ⟨⟨y, aupd_same⟩, by rw [aupd_ne hxb]; exact aupd_same⟩, fun a o e => ?_, hx, hb0⟩
  have ax : a ≠ x := fun z => by rw [z, hx] at e; cases e
  have ab : a ≠ b := fun z => by rw [z, hb0] at e; cases e
  rw [aupd_ne ax, aupd_ne ab, aupd_ne ax]
  exact e
theorem IsDesk.ext {C : Addr} {A A' : AH} {p b : Addr} {bk : List (Str × List Pt)} (h : IsDesk C A p b bk) (e : Ext A A') : IsDesk C A' p b bk := ⟨let ⟨y, h1⟩ := h.at_; ⟨y, e _ _ h1⟩, e _ _ h.bk⟩
theorem cut3036 {β : Type} (xs : List β) : (cutL xs (some 6) (some 36)).length ≤ 30 := by
  unfold cutL
  rw [List.length_take]
  have h1 : HT.sIx xs.length 0 (some ((6 : Nat) : Int)) = min 6 xs.length := by rw [HT.sIx_nat]
  have h2 : HT.sIx xs.length xs.length (some ((36 : Nat) : Int)) = min 36 xs.length := by rw [HT.sIx_nat]
  have h1' : HT.sIx xs.length 0 (some (6 : Int)) = min 6 xs.length := h1
  have h2' : HT.sIx xs.length xs.length (some (36 : Int)) = min 36 xs.length := h2
  rw [h1', h2']
  omega
theorem ok_law (T : Txt K mg) (TW : TxW w T) {f : Addr} {fd : FuncData} (F : Fun K "law" "law" s_law f fd) : FnOk P w K mg base (L2N.CX P w) 14 f fd ["_law_script"] (spOf K ctLaw) := by
  refine fnok_mk F sc_law (fun ds A k e h => ?_) fun cdv A0 outer s H E hr hp htk ds A kk ee h => ?_
  · obtain ⟨ns, rfl, _⟩ := h; rfl
  obtain ⟨ns, rfl, hl63, hk⟩ := h
  refine as_set (i := 1) sc_law.nd rfl (.inl rfl) (AV.ae (AE.av (AE.frz (ae_call (ok__law_names T) (hr.mono (by decide)) rfl (AVs.aes (avs_c (AE.av (ae_call (ok__law_cell_at T) (hr.mono (by decide)) rfl (AVs.aes (avs_c (av_var (i := 0) rfl (.inl rfl) rfl) (avs_c av_int avs_nil)) ⟨_, _, rfl, by first | decide | omega, ⟨rfl, Ext.refl _⟩⟩))) (avs_c av_int avs_nil)) ⟨_, 6, rfl, by decide, fun q hq => fz_k hq ⟨rfl, Ext.refl _⟩⟩)))) ?_)
  obtain ⟨nm, hnm⟩ : ∃ nm, nm = namesC (cellM ns 0) 6 := ⟨_, rfl⟩
  have hnl : nm.length = 6 := by rw [hnm, namesC_len]
  have hnN : ∀ x ∈ nm, NameL (TL.tl x) := by rw [hnm]; exact namesC_name (by decide)
  refine AS.ro (ρ' := [some (.cl (ns.map D.int)), some (.fz (nm.map D.str)), none, none, none, none, none, none]) ?_ (by rw [hnm]; rfl)
  refine as_set (i := 2) sc_law.nd rfl (.inl rfl) (ae_mk0 (ok_Desk___init__ T) T.l_Desk.g (hr.mono (by decide)) rfl fun p1 yy1 hxx1 => ⟨p1, yy1, rfl, aupd_same, fun b1 hb => ⟨rfl, ?_⟩⟩)
  obtain ⟨A1, eA, hD1, hX1, hx1, hb1⟩ := desk_new hxx1 hb
  rw [← eA]
  clear eA hb
  refine AS.ro (ρ' := [some (.cl (ns.map D.int)), some (.fz (nm.map D.str)), some (.ref p1), none, none, none, none, none]) ?_
  refine as_set (i := 3) sc_law.nd rfl (.inl rfl) (ae_mk0 (ok_Desk___init__ T) T.l_Desk.g (hr.mono (by decide)) rfl fun p2 yy2 hxx2 => ⟨p2, yy2, rfl, aupd_same, fun b2 hb => ⟨rfl, ?_⟩⟩)
  obtain ⟨A2, eA, hD2, hX2, hx2, hb2⟩ := desk_new hxx2 hb
  rw [← eA]
  clear eA hb
  refine AS.ro (ρ' := [some (.cl (ns.map D.int)), some (.fz (nm.map D.str)), some (.ref p1), some (.ref p2), none, none, none, none]) ?_
  refine as_set (i := 4) sc_law.nd rfl (.inl rfl) (ae_dictS fun q hq => ?_)
  refine AS.ro (ρ' := [some (.cl (ns.map D.int)), some (.fz (nm.map D.str)), some (.ref p1), some (.ref p2), some (.ref q), none, none, none]) ?_
  have hD1b := hD1.ext hX2
  obtain ⟨y1, hy1⟩ := hD1b.at_
  obtain ⟨y2, hy2⟩ := hD2.at_
  have hbb : b2 ≠ b1 := fun e => by have := hD1.bk; rw [← e, hb2] at this; cases this
  have hbq : b2 ≠ q := fun e => by have := hD2.bk; rw [e, hq] at this; cases this
  have hpb : p1 ≠ b2 := fun e => by rw [e, hD2.bk] at hy1; cases hy1
  have hp2b : p2 ≠ b1 := fun e => by rw [e, hD1b.bk] at hy2; cases hy2
  have hp2q : p2 ≠ q := fun e => by rw [e, hq] at hy2; cases hy2
  have hqb : q ≠ b1 := fun e => by have := hD1b.bk; rw [← e, hq] at this; cases this
  obtain ⟨A3, hA3⟩ : ∃ A3, A3 = aupd A2 q (dkS (lawA [])) := ⟨_, rfl⟩
  have e0 : aupd A2 q (dkS []) = A3 := hA3.symm
  rw [e0]
  have hE3 : Ext A2 A3 := by rw [hA3]; exact Ext.new hq
  have hW : Wd T.C_Desk A3 p1 b1 q [] := ⟨hD1b.ext hE3, by rw [hA3]; exact aupd_same, hqb⟩
  have hD23 := hD2.ext hE3
  have hW2 : ∀ L : Bk, IsDesk T.C_Desk (putH A3 q b1 L) p2 b2 (deskB []) := fun L => by
    obtain ⟨y, hy⟩ := hD23.at_
    unfold putH
    exact ⟨⟨y, by rw [aupd_ne hp2b, aupd_ne hp2q]; exact hy⟩, by rw [aupd_ne hbb, aupd_ne hbq]; exact hD23.bk⟩
  have hB0 : BkOk [] := fun q hq => nomatch hq
  obtain ⟨y3, hy3⟩ := hW.dk.at_
  refine as_if (bb := false) (AT.is (at_neS (AE.av (ae_mt (ok_Desk_say T TW) T.l_Desk.c (hr.mono (by decide)) (av_var (i := 2) rfl (.inl rfl) rfl) hy3 rfl (AVs.aes (avs_c av_str avs_nil) (W_names hW.dk hB0 (by decide) ⟨rfl, Ext.refl _⟩)))) av_str) (by rfl)) (fun h => nomatch h) (fun _ => as_end ?_)
  refine as_cons (a1_for hp rfl (ai_rng rfl T.m_range av_int (by decide) (by decide) ⟨fun i ρ A' => ∃ (y5 : Option D) (L : Bk), ρ = [some (.cl (ns.map D.int)), some (.fz (nm.map D.str)), some (.ref p1), some (.ref p2), some (.ref q), y5, none, none] ∧ A' = putH A3 q b1 L ∧ BkOk L ∧ L.length ≤ i ∧ (0 < i → 0 < L.length), ⟨_, [], rfl, hW.same.symm, hB0, Nat.le_refl _, fun h => absurd h (Nat.lt_irrefl _)⟩, fun i ρ A' hle hI => trivial, fun i ρ A' hi hI => ⟨_, _, (ag_name (i := 5) sc_law.nd rfl (.inl rfl)), ?_⟩, fun ρ A' hI => ?_⟩))
  · skip
    obtain ⟨y5, L, rfl, rfl, hB, hLl, hLp⟩ := hI
    have hi3 : i < 3 := hi
    refine AS.ro (ρ' := [some (.cl (ns.map D.int)), some (.fz (nm.map D.str)), some (.ref p1), some (.ref p2), some (.ref q), some (.int (i : Int)), none, none]) ?_
    have hmN : NameL (TL.tl (nm.getD i default)) := hnN _ (by
      rw [List.getD_eq_getElem?_getD, List.getElem?_eq_getElem (show i < nm.length by omega)]
      exact List.getElem_mem _)
    have hpl := putL_len L (nm.getD i default) (toldV (cellM ns (1 + i) + 31 * (i : Int)))
    refine as_cons (a1_if (aet_not (aet_val (ae_call (ok__law_told T TW) (hr.mono (by decide)) rfl (AVs.aes (avs_c (av_var (i := 2) rfl (.inl rfl) rfl) (avs_c (av_var (i := 4) rfl (.inl rfl) rfl) (avs_c (av_ixDN (f := D.str) default (av_var (i := 1) rfl (.inl rfl) rfl) IsL.fz (av_var (i := 5) rfl (.inl rfl) rfl) (n := i) rfl (by omega)) (avs_c (av_add (AE.av (ae_call (ok__law_cell_at T) (hr.mono (by decide)) rfl (AVs.aes (avs_c (av_var (i := 0) rfl (.inl rfl) rfl) (avs_c (av_add av_int (av_var (i := 5) rfl (.inl rfl) rfl)) avs_nil)) ⟨_, _, rfl, by first | decide | omega, ⟨rfl, Ext.refl _⟩⟩))) (av_mulS av_int (av_var (i := 5) rfl (.inl rfl) rfl) (.inl (by decide)))) avs_nil)))) ⟨p1, b1, q, L, nm.getD i default, _, rfl, hW.put L, hB, by omega, hmN, ⟨true, rfl, fun h => (nomatch h), fun _ => as_nil ?_⟩⟩)))))
    rw [putH_putH hqb]
    exact as_nil ⟨_, _, rfl, rfl, putL_ok hB hmN (toldV_ok _), by omega, fun _ => hpl.2⟩
  obtain ⟨y5, L0, rfl, rfl, hB1, hL1, hLp⟩ := hI
  have hL1 : L0.length ≤ 3 := hL1
  have hLp : 0 < L0.length := hLp (by decide)
  obtain ⟨cs, hcs⟩ : ∃ cs, cs = cutL ns (some 6) (some 36) ++ [cellM ns 4 + 7, cellM ns 5 + 11] := ⟨_, rfl⟩
  have hcl : cs.length ≤ 32 := by rw [hcs, List.length_append]; have := cut3036 ns; simp; omega
  refine as_cons (a1_for hp rfl (ai_F (0 : Int) (f := D.int) (AV.is (av_cat (f := D.int) (av_slF (f := D.int) (av_var (i := 0) rfl (.inl rfl) rfl) IsL.cl (lo' := some 6) (hi' := some 36) av_int av_int) (av_lst (ds := ([cellM ns 4 + 7, cellM ns 5 + 11] : List Int).map D.int) (avs_c (av_add (AE.av (ae_call (ok__law_cell_at T) (hr.mono (by decide)) rfl (AVs.aes (avs_c (av_var (i := 0) rfl (.inl rfl) rfl) (avs_c av_int avs_nil)) ⟨_, _, rfl, by first | decide | omega, ⟨rfl, Ext.refl _⟩⟩))) av_int) (avs_c (av_add (AE.av (ae_call (ok__law_cell_at T) (hr.mono (by decide)) rfl (AVs.aes (avs_c (av_var (i := 0) rfl (.inl rfl) rfl) (avs_c av_int avs_nil)) ⟨_, _, rfl, by first | decide | omega, ⟨rfl, Ext.refl _⟩⟩))) av_int) avs_nil))) (.fz _) (.fz _) (by have := cut3036 ns; exact Nat.le_of_lt (small1000 (by simp; omega)))) (show _ = D.fz (cs.map D.int) by rw [hcs])) ⟨fun i ρ A' => ∃ (y6 : Option D) (L : Bk), ρ = [some (.cl (ns.map D.int)), some (.fz (nm.map D.str)), some (.ref p1), some (.ref p2), some (.ref q), y5, y6, none] ∧ A' = putH A3 q b1 L ∧ BkOk L ∧ L.length ≤ 3 + i ∧ 0 < L.length, ⟨_, L0, rfl, rfl, hB1, by omega, hLp⟩, fun i ρ A' hle hI => trivial, fun i ρ A' hi hI => ⟨_, _, (ag_name (i := 6) sc_law.nd rfl (.inl rfl)), ?_⟩, fun ρ A' hI => ?_⟩))
  · skip
    obtain ⟨y6, L, rfl, rfl, hB, hLl, hLp⟩ := hI
    refine AS.ro (ρ' := [some (.cl (ns.map D.int)), some (.fz (nm.map D.str)), some (.ref p1), some (.ref p2), some (.ref q), y5, some (.int (cs.getD i 0)), none]) ?_
    refine as_cons (a1_if (aet_not (aet_val (ae_call (ok__law_asked T TW) (hr.mono (by decide)) rfl (AVs.aes (avs_c (av_var (i := 2) rfl (.inl rfl) rfl) (avs_c (av_var (i := 4) rfl (.inl rfl) rfl) (avs_c (av_var (i := 6) rfl (.inl rfl) rfl) (avs_c (av_var (i := 1) rfl (.inl rfl) rfl) avs_nil)))) ⟨p1, b1, q, L, nm, _, rfl, hW.put L, hB, hLp, by omega, hnN, by omega, by omega, fun L' hB' h0' h1' => ⟨true, rfl, fun h => (nomatch h), fun _ => as_nil ?_⟩⟩)))))
    rw [putH_putH hqb]
    exact as_nil ⟨_, _, rfl, rfl, hB', by omega, h0'⟩
  obtain ⟨y6, L, rfl, rfl, hB, hLl, hLp⟩ := hI
  have hLl : L.length ≤ 35 := by omega
  have hWL := hW.put L
  have hW2L := hW2 L
  obtain ⟨A4, hA4⟩ : ∃ A4, A4 = putH A3 q b1 L := ⟨_, rfl⟩
  rw [← hA4] at hWL hW2L ⊢
  refine as_cons (a1_lock hWL.lw fun o gs => a1_for hp rfl (ai_keysZ (av_var (i := 4) rfl (.inl rfl) rfl) aupd_same ⟨fun i ρ A' => ∃ (y7 : Option D), ρ = [some (.cl (ns.map D.int)), some (.fz (nm.map D.str)), some (.ref p1), some (.ref p2), some (.ref q), y5, y6, y7] ∧ A' = aupd A4 q (.dZ o gs ((lawA L).map keyS)), ⟨_, rfl, rfl⟩, fun i ρ A' hle hI => (by obtain ⟨_, _, rfl⟩ := hI; exact aupd_same), fun i ρ A' hi hI => ⟨_, _, (ag_name (i := 7) sc_law.nd rfl (.inl rfl)), ?_⟩, fun ρ A' hI => ?_⟩))
  · skip
    obtain ⟨y7, rfl, rfl⟩ := hI
    obtain ⟨n, hn⟩ : ∃ n, n = ((lawA L).getD i (default, .non)).1 := ⟨_, rfl⟩
    have hnm2 : n ∈ L.map (·.1) := by
      rw [← names_law L, hn, List.getD_eq_getElem?_getD, List.getElem?_eq_getElem hi]
      exact List.mem_map_of_mem (List.getElem_mem hi)
    obtain ⟨v, hlk, hvm⟩ := lkL_mem hnm2
    have hN : NameL (TL.tl n) := (hB _ hvm).1
    have hE : EntOk v := (hB _ hvm).2
    have h1 := hE.len
    have h3 := name_len hN
    have hvb : v.1.natAbs < 2 ^ 9000 := bt_le (show v.1.natAbs < 2 ^ 30 by have := hE.b0; have := hE.b1; omega) (by decide)
    have k1 : (("tell " : Str)).length = 5 := rfl
    have hDZ : IsDesk T.C_Desk (aupd A4 q (.dZ o gs ((lawA L).map keyS))) p1 b1 (deskB L) := ⟨let ⟨y, e⟩ := hWL.dk.at_; ⟨y, by rw [aupd_ne hWL.qp]; exact e⟩, by rw [aupd_ne hqb.symm]; exact hWL.dk.bk⟩
    obtain ⟨yz, hyz⟩ := hDZ.at_
    refine AS.ro (ρ' := [some (.cl (ns.map D.int)), some (.fz (nm.map D.str)), some (.ref p1), some (.ref p2), some (.ref q), y5, y6, some (.str n)]) ?_ (by rw [hn]; rfl)
    refine as_if (bb := false) (AT.is (at_neS (AE.av (ae_mt (ok_Desk_say T TW) T.l_Desk.c (hr.mono (by decide)) (av_var (i := 2) rfl (.inl rfl) rfl) hyz rfl (AVs.aes (avs_c (av_catS av_str (av_var (i := 7) rfl (.inl rfl) rfl) (Nat.le_of_lt (small_sz (by simp only [len_cat, k1]; omega)))) avs_nil) (W_tell hDZ hB (by omega) hN hlk hE ⟨rfl, Ext.refl _⟩)))) (AE.av (ae_call (ok__law_curve_text T) (hr.mono (by decide)) rfl (AVs.aes (avs_c (AE.av (d := .fz ((rowV v).map pt)) (ae_call (ok__law_handed T) (hr.mono (by decide)) rfl (AVs.aes (avs_c (av_ixT (av_ixZ hr (av_var (i := 4) rfl (.inl rfl) rfl) (av_var (i := 7) rfl (.inl rfl) rfl) aupd_same (d := valL v) (by rw [lkL_law, hlk]; rfl)) av_int rfl) (avs_c (av_ixT (av_ixZ hr (av_var (i := 4) rfl (.inl rfl) rfl) (av_var (i := 7) rfl (.inl rfl) rfl) aupd_same (d := valL v) (by rw [lkL_law, hlk]; rfl)) av_int rfl) avs_nil)) ⟨_, _, rfl, by have := hE.l1; omega, hE.b0, hvb, ⟨rfl, Ext.refl _⟩⟩))) avs_nil) ⟨_, rowV v, 101, rfl, IsL.fz, hE.sz, by decide, by decide, by omega, ⟨rfl, Ext.refl _⟩⟩)))) (by simp)) (fun h => nomatch h) (fun _ => as_end ?_)
    exact as_nil ⟨_, rfl, rfl⟩
  obtain ⟨y7, rfl, rfl⟩ := hI
  refine ⟨aupd_same, ?_⟩
  rw [aupd_aupd, aupd_self hWL.lw]
  obtain ⟨y4, hy4⟩ := hWL.dk.at_
  obtain ⟨y8, hy8⟩ := hW2L.at_
  have hie : L.isEmpty = false := by cases L with | nil => cases hLp | cons => rfl
  have k2 : ((" " : Str)).length = 1 := rfl
  obtain ⟨th, hth⟩ : ∃ th, th = srtN (L.map (·.1)) := ⟨_, rfl⟩
  have htl : th.length = L.length := by rw [hth, srtN_len, List.length_map]
  have hsl := sum_len (xs := th) (b := 12) fun x hx => by
    obtain ⟨v', _, hm9⟩ := lkL_mem (L := L) (n := x) (srtN_mem (by rw [← hth]; exact hx))
    exact name_len (hB _ hm9).1
  refine as_if (bb := false) (AT.is (AW.at (aw_or (at_neS (AE.av (ae_mt (ok_Desk_say T TW) T.l_Desk.c (hr.mono (by decide)) (av_var (i := 2) rfl (.inl rfl) rfl) hy4 rfl (AVs.aes (avs_c av_str avs_nil) (W_names hWL.dk hB (by omega) ⟨rfl, Ext.refl _⟩)))) (av_join (ys := th) av_str (AV.is (av_sortedN rfl rfl T.m_sorted (av_var (i := 4) rfl (.inl rfl) rfl) hWL.lw (by rw [lawA_len]; omega)) (show _ = D.fz (th.map D.str) by rw [names_law, hth])) IsL.fz (by rw [k2]; omega))) fun _ => aw_or1 (at_neS (AE.av (ae_mt (ok_Desk_say T TW) T.l_Desk.c (hr.mono (by decide)) (av_var (i := 3) rfl (.inl rfl) rfl) hy8 rfl (AVs.aes (avs_c av_str avs_nil) (W_names hW2L hB0 (by decide) ⟨rfl, Ext.refl _⟩)))) av_str))) (by rw [hie, hth]; simp)) (fun h => nomatch h) (fun _ => as_end ?_)
  exact as_ret (ae_call (ok__law_by_turns T TW) (hr.mono (by decide)) rfl (AVs.aes (avs_c (av_var (i := 2) rfl (.inl rfl) rfl) (avs_c (av_var (i := 3) rfl (.inl rfl) rfl) (avs_c (av_var (i := 4) rfl (.inl rfl) rfl) (avs_c (AE.av (ae_call (ok__law_cell_at T) (hr.mono (by decide)) rfl (AVs.aes (avs_c (av_var (i := 0) rfl (.inl rfl) rfl) (avs_c av_int avs_nil)) ⟨_, _, rfl, by first | decide | omega, ⟨rfl, Ext.refl _⟩⟩))) avs_nil)))) ⟨p1, b1, q, p2, b2, L, _, rfl, hWL, hB, by omega, hW2L, hbb, hbq, hk⟩))
end
end Lw
namespace Lw
open PySem PySem.Spec PyProof.Rows L2 C7
theorem fin {l : PySem.W.OpenLaw} {w : World} {K : Frag} {h : Heap} {mg : Str → Option Value} (X : K.In h) (G : h.Ns mainGlobals mg) {C_Sieve C_Desk C_SeatError C_NoShare C_NoLower C_TooMany C_NoText C_NoName c_NOUGHT_curves c_NOUGHT_partings c_HALF c_NOUGHT_raising c_SHAPES a_NOUGHT_raising b_NOUGHT_raising : Addr} {t_MOST_PAIRS t_MOST_SEATS t_FIGURES t_MOST_FIGURES t_MOST_PARTS t_LETTERS t_MOST_LETTERS t_MOST_SMOOTH u_NOUGHT_curves v_NOUGHT_curves u_NOUGHT_partings v_NOUGHT_partings u_HALF v_HALF u_NOUGHT_raising1 v_NOUGHT_raising1 u_NOUGHT_raising2 v_NOUGHT_raising2 : Tok} {o_NOUGHT_curves o_NOUGHT_partings o_HALF o_NOUGHT_raising o_NOUGHT_raising1 o_NOUGHT_raising2 : Obj} {w_NOUGHT_curves w_NOUGHT_partings w_HALF w_NOUGHT_raising w_NOUGHT_raising1 w_NOUGHT_raising2 : Nat} {es_SHAPES : Array DictEntry} {n_SHAPES : Nat}
    (d_common_part : DefF K mg "common_part" s_common_part ["one", "other"])
    (d_share : DefF K mg "share" s_share ["top", "bottom"])
    (d_plus : DefF K mg "plus" s_plus ["one", "other"])
    (d_minus : DefF K mg "minus" s_minus ["one", "other"])
    (d_times : DefF K mg "times" s_times ["one", "other"])
    (d_under : DefF K mg "under" s_under ["one", "other"])
    (d_between : DefF K mg "between" s_between ["one", "other", "t"])
    (d_on_way : DefF K mg "on_way" s_on_way ["one", "other", "t"])
    (d_step : DefF K mg "step" s_step ["one", "other"])
    (d_moved : DefF K mg "moved" s_moved ["place", "by", "many"])
    (d_next_row : DefF K mg "next_row" s_next_row ["row", "t"])
    (d_rows : DefF K mg "rows" s_rows ["curve", "t"])
    (d_point : DefF K mg "point" s_point ["curve", "t"])
    (d_ways : DefF K mg "ways" s_ways ["n"])
    (d_sum_of : DefF K mg "sum_of" s_sum_of ["points", "shares"])
    (d_polar : DefF K mg "polar" s_polar ["curve", "shares"])
    (d_cut : DefF K mg "cut" s_cut ["curve", "t"])
    (d_stretch : DefF K mg "stretch" s_stretch ["curve", "s", "t"])
    (d_turned : DefF K mg "turned" s_turned ["curve"])
    (d_whole_points : DefF K mg "whole_points" s_whole_points ["points"])
    (d_goes_left : DefF K mg "goes_left" s_goes_left ["one", "other", "third"])
    (d_chain : DefF K mg "chain" s_chain ["some"])
    (d_hull_of_whole : DefF K mg "hull_of_whole" s_hull_of_whole ["some"])
    (d_hull : DefF K mg "hull" s_hull ["points"])
    (d_least_of : DefF K mg "least_of" s_least_of ["some"])
    (d_greatest_of : DefF K mg "greatest_of" s_greatest_of ["some"])
    (d_box : DefF K mg "box" s_box ["points"])
    (d_speed : DefF K mg "speed" s_speed ["curve"])
    (d_smoothness : DefF K mg "smoothness" s_smoothness ["one", "other", "most"])
    (d_blend : DefF K mg "blend" s_blend ["one", "other", "here", "there"])
    (d_map_point : DefF K mg "map_point" s_map_point ["by", "place"])
    (d_mapped : DefF K mg "mapped" s_mapped ["curve", "by"])
    (d_turn_of : DefF K mg "turn_of" s_turn_of ["one", "other"])
    (d_along : DefF K mg "along" s_along ["one", "other"])
    (d_steps_between : DefF K mg "steps_between" s_steps_between ["some", "others"])
    (d_ahead_of : DefF K mg "ahead_of" s_ahead_of ["one"])
    (d_ahead_of_two : DefF K mg "ahead_of_two" s_ahead_of_two ["one", "other"])
    (d_ahead_of_all : DefF K mg "ahead_of_all" s_ahead_of_all ["corners"])
    (d_parts_of_two : DefF K mg "parts_of_two" s_parts_of_two ["one", "other"])
    (d_parts_of : DefF K mg "parts_of" s_parts_of ["corners"])
    (d_line_by : DefF K mg "line_by" s_line_by ["way", "some", "others", "bottom"])
    (d_common_by : DefF K mg "common_by" s_common_by ["parts", "steps", "many", "more"])
    (d_parting : DefF K mg "parting" s_parting ["one", "other"])
    (d_halved : DefF K mg "halved" s_halved ["curves"])
    (d_stretches : DefF K mg "stretches" s_stretches ["curve", "level"])
    (d_beneath : DefF K mg "beneath" s_beneath ["pairs"])
    (d_meets : DefF K mg "meets" s_meets ["one", "other", "level"])
    (d_powers : DefF K mg "powers" s_powers ["curve"])
    (d_of_powers : DefF K mg "of_powers" s_of_powers ["some"])
    (d_raised : DefF K mg "raised" s_raised ["curve"])
    (d_lowered : DefF K mg "lowered" s_lowered ["curve"])
    (d_least : DefF K mg "least" s_least ["curve"])
    (d_same : DefF K mg "same" s_same ["one", "other"])
    (d_show_share : DefF K mg "show_share" s_show_share ["one"])
    (d_show_point : DefF K mg "show_point" s_show_point ["one"])
    (d_show_curve : DefF K mg "show_curve" s_show_curve ["curve"])
    (d_read_whole : DefF K mg "read_whole" s_read_whole ["text"])
    (d_read_share : DefF K mg "read_share" s_read_share ["text"])
    (d_read_point : DefF K mg "read_point" s_read_point ["text"])
    (d_read_curve : DefF K mg "read_curve" s_read_curve ["text"])
    (d_read_name : DefF K mg "read_name" s_read_name ["word"])
    (d_read_level : DefF K mg "read_level" s_read_level ["word"])
    (d_read_word : DefF K mg "read_word" s_read_word ["word", "shape"])
    (d_read_row : DefF K mg "read_row" s_read_row ["row"])
    (d__law_cell_at : DefF K mg "_law_cell_at" s__law_cell_at ["_law_script", "_law_k"])
    (d__law_stream : DefF K mg "_law_stream" s__law_stream ["_law_cell", "_law_many"])
    (d__law_share : DefF K mg "_law_share" s__law_share ["_law_top", "_law_bottom"])
    (d__law_way : DefF K mg "_law_way" s__law_way ["_law_cell"])
    (d__law_place : DefF K mg "_law_place" s__law_place ["_law_cell", "_law_way_here"])
    (d__law_handed : DefF K mg "_law_handed" s__law_handed ["_law_places", "_law_bottom"])
    (d__law_seats : DefF K mg "_law_seats" s__law_seats ["_law_cell", "_law_many", "_law_way_here"])
    (d__law_rows : DefF K mg "_law_rows" s__law_rows ["_law_seats_here", "_law_t"])
    (d__law_power : DefF K mg "_law_power" s__law_power ["_law_number", "_law_many"])
    (d__law_names : DefF K mg "_law_names" s__law_names ["_law_cell", "_law_many"])
    (d__law_share_text : DefF K mg "_law_share_text" s__law_share_text ["_law_one"])
    (d__law_point_text : DefF K mg "_law_point_text" s__law_point_text ["_law_place_here"])
    (d__law_curve_text : DefF K mg "_law_curve_text" s__law_curve_text ["_law_curve"])
    (d__law_point_due : DefF K mg "_law_point_due" s__law_point_due ["_law_seats_here", "_law_bottom", "_law_t"])
    (d__law_box_due : DefF K mg "_law_box_due" s__law_box_due ["_law_seats_here", "_law_bottom"])
    (d__law_told : DefF K mg "_law_told" s__law_told ["_law_desk", "_law_book", "_law_name", "_law_cell"])
    (d__law_asked : DefF K mg "_law_asked" s__law_asked ["_law_desk", "_law_book", "_law_cell", "_law_names_here"])
    (d__law_by_turns : DefF K mg "_law_by_turns" s__law_by_turns ["_law_desk", "_law_beside", "_law_book", "_law_cell"])
    (d_law : LawF K mg s_law "_law_script")
    (a_Sieve : PySem.W.nsIn K mainGlobals "Sieve" = some (some (.ref C_Sieve)))
    (pg_Sieve : PySem.W.plainGet K C_Sieve Str.empty = true)
    (hd_Sieve : PySem.W.hasDictIn K C_Sieve = true)
    (po_Sieve : PySem.W.plainOver K C_Sieve = true)
    (sa_Sieve : PySem.W.findIn K (.ref C_Sieve) "__setattr__" = some (some (.builtin "object.__setattr__")))
    (n_Sieve_level : PySem.W.findIn K (.ref C_Sieve) "level" = some none)
    (n_Sieve_ones : PySem.W.findIn K (.ref C_Sieve) "ones" = some none)
    (n_Sieve_others : PySem.W.findIn K (.ref C_Sieve) "others" = some none)
    (n_Sieve_pairs : PySem.W.findIn K (.ref C_Sieve) "pairs" = some none)
    (n_Sieve_thrown : PySem.W.findIn K (.ref C_Sieve) "thrown" = some none)
    (a_Desk : PySem.W.nsIn K mainGlobals "Desk" = some (some (.ref C_Desk)))
    (pg_Desk : PySem.W.plainGet K C_Desk Str.empty = true)
    (hd_Desk : PySem.W.hasDictIn K C_Desk = true)
    (po_Desk : PySem.W.plainOver K C_Desk = true)
    (sa_Desk : PySem.W.findIn K (.ref C_Desk) "__setattr__" = some (some (.builtin "object.__setattr__")))
    (n_Desk_book : PySem.W.findIn K (.ref C_Desk) "book" = some none)
    (a_SeatError : PySem.W.nsIn K mainGlobals "SeatError" = some (some (.ref C_SeatError)))
    (x_SeatError : PySem.W.excIn K C_SeatError [.type "ValueError", .type "Exception", .type "BaseException", .type "object"] "ValueError.__new__" = true)
    (k_SeatError : PySem.W.keepIn K (.ref C_SeatError) = true)
    (b_SeatError : PySem.W.subIn K (.ref C_SeatError) (.type "BaseException") = some true)
    (t_SeatError : PySem.W.typeIn K (.ref C_SeatError) = some (.type "type"))
    (h_SeatError : PySem.W.hasDictIn K C_SeatError = true)
    (a_NoShare : PySem.W.nsIn K mainGlobals "NoShare" = some (some (.ref C_NoShare)))
    (x_NoShare : PySem.W.excIn K C_NoShare [.type "ValueError", .type "Exception", .type "BaseException", .type "object"] "ValueError.__new__" = true)
    (k_NoShare : PySem.W.keepIn K (.ref C_NoShare) = true)
    (b_NoShare : PySem.W.subIn K (.ref C_NoShare) (.type "BaseException") = some true)
    (t_NoShare : PySem.W.typeIn K (.ref C_NoShare) = some (.type "type"))
    (h_NoShare : PySem.W.hasDictIn K C_NoShare = true)
    (a_NoLower : PySem.W.nsIn K mainGlobals "NoLower" = some (some (.ref C_NoLower)))
    (x_NoLower : PySem.W.excIn K C_NoLower [.type "ValueError", .type "Exception", .type "BaseException", .type "object"] "ValueError.__new__" = true)
    (k_NoLower : PySem.W.keepIn K (.ref C_NoLower) = true)
    (b_NoLower : PySem.W.subIn K (.ref C_NoLower) (.type "BaseException") = some true)
    (t_NoLower : PySem.W.typeIn K (.ref C_NoLower) = some (.type "type"))
    (h_NoLower : PySem.W.hasDictIn K C_NoLower = true)
    (a_TooMany : PySem.W.nsIn K mainGlobals "TooMany" = some (some (.ref C_TooMany)))
    (x_TooMany : PySem.W.excIn K C_TooMany [.type "ValueError", .type "Exception", .type "BaseException", .type "object"] "ValueError.__new__" = true)
    (k_TooMany : PySem.W.keepIn K (.ref C_TooMany) = true)
    (b_TooMany : PySem.W.subIn K (.ref C_TooMany) (.type "BaseException") = some true)
    (t_TooMany : PySem.W.typeIn K (.ref C_TooMany) = some (.type "type"))
    (h_TooMany : PySem.W.hasDictIn K C_TooMany = true)
    (a_NoText : PySem.W.nsIn K mainGlobals "NoText" = some (some (.ref C_NoText)))
    (x_NoText : PySem.W.excIn K C_NoText [.type "ValueError", .type "Exception", .type "BaseException", .type "object"] "ValueError.__new__" = true)
    (k_NoText : PySem.W.keepIn K (.ref C_NoText) = true)
    (b_NoText : PySem.W.subIn K (.ref C_NoText) (.type "BaseException") = some true)
    (t_NoText : PySem.W.typeIn K (.ref C_NoText) = some (.type "type"))
    (h_NoText : PySem.W.hasDictIn K C_NoText = true)
    (a_NoName : PySem.W.nsIn K mainGlobals "NoName" = some (some (.ref C_NoName)))
    (x_NoName : PySem.W.excIn K C_NoName [.type "ValueError", .type "Exception", .type "BaseException", .type "object"] "ValueError.__new__" = true)
    (k_NoName : PySem.W.keepIn K (.ref C_NoName) = true)
    (b_NoName : PySem.W.subIn K (.ref C_NoName) (.type "BaseException") = some true)
    (t_NoName : PySem.W.typeIn K (.ref C_NoName) = some (.type "type"))
    (h_NoName : PySem.W.hasDictIn K C_NoName = true)
    (m_abs : PySem.W.nsIn K mainGlobals "abs" = some none)
    (m_divmod : PySem.W.nsIn K mainGlobals "divmod" = some none)
    (m_enumerate : PySem.W.nsIn K mainGlobals "enumerate" = some none)
    (m_int : PySem.W.nsIn K mainGlobals "int" = some none)
    (m_isinstance : PySem.W.nsIn K mainGlobals "isinstance" = some none)
    (m_len : PySem.W.nsIn K mainGlobals "len" = some none)
    (m_list : PySem.W.nsIn K mainGlobals "list" = some none)
    (m_max : PySem.W.nsIn K mainGlobals "max" = some none)
    (m_min : PySem.W.nsIn K mainGlobals "min" = some none)
    (m_range : PySem.W.nsIn K mainGlobals "range" = some none)
    (m_reversed : PySem.W.nsIn K mainGlobals "reversed" = some none)
    (m_set : PySem.W.nsIn K mainGlobals "set" = some none)
    (m_sorted : PySem.W.nsIn K mainGlobals "sorted" = some none)
    (m_str : PySem.W.nsIn K mainGlobals "str" = some none)
    (m_sum : PySem.W.nsIn K mainGlobals "sum" = some none)
    (m_tuple : PySem.W.nsIn K mainGlobals "tuple" = some none)
    (m_zip : PySem.W.nsIn K mainGlobals "zip" = some none)
    (g_NOUGHT_curves : PySem.W.nsIn K mainGlobals "NOUGHT_curves" = some (some (.ref c_NOUGHT_curves)))
    (l_NOUGHT_curves : List.lookup c_NOUGHT_curves K = some o_NOUGHT_curves)
    (y_NOUGHT_curves : o_NOUGHT_curves.cls = .type "tuple")
    (s_NOUGHT_curves : o_NOUGHT_curves.data = .seq #[.int 0 u_NOUGHT_curves, .int 1 v_NOUGHT_curves] w_NOUGHT_curves)
    (g_NOUGHT_partings : PySem.W.nsIn K mainGlobals "NOUGHT_partings" = some (some (.ref c_NOUGHT_partings)))
    (l_NOUGHT_partings : List.lookup c_NOUGHT_partings K = some o_NOUGHT_partings)
    (y_NOUGHT_partings : o_NOUGHT_partings.cls = .type "tuple")
    (s_NOUGHT_partings : o_NOUGHT_partings.data = .seq #[.int 0 u_NOUGHT_partings, .int 1 v_NOUGHT_partings] w_NOUGHT_partings)
    (g_HALF : PySem.W.nsIn K mainGlobals "HALF" = some (some (.ref c_HALF)))
    (l_HALF : List.lookup c_HALF K = some o_HALF)
    (y_HALF : o_HALF.cls = .type "tuple")
    (s_HALF : o_HALF.data = .seq #[.int 1 u_HALF, .int 2 v_HALF] w_HALF)
    (g_MOST_PAIRS : PySem.W.nsIn K mainGlobals "MOST_PAIRS" = some (some (.int 256 t_MOST_PAIRS)))
    (g_MOST_SEATS : PySem.W.nsIn K mainGlobals "MOST_SEATS" = some (some (.int 12 t_MOST_SEATS)))
    (g_NOUGHT_raising : PySem.W.nsIn K mainGlobals "NOUGHT_raising" = some (some (.ref c_NOUGHT_raising)))
    (l_NOUGHT_raising : List.lookup c_NOUGHT_raising K = some o_NOUGHT_raising)
    (y_NOUGHT_raising : o_NOUGHT_raising.cls = .type "tuple")
    (s_NOUGHT_raising : o_NOUGHT_raising.data = .seq #[.ref a_NOUGHT_raising, .ref b_NOUGHT_raising] w_NOUGHT_raising)
    (l_NOUGHT_raising1 : List.lookup a_NOUGHT_raising K = some o_NOUGHT_raising1)
    (y_NOUGHT_raising1 : o_NOUGHT_raising1.cls = .type "tuple")
    (s_NOUGHT_raising1 : o_NOUGHT_raising1.data = .seq #[.int 0 u_NOUGHT_raising1, .int 1 v_NOUGHT_raising1] w_NOUGHT_raising1)
    (l_NOUGHT_raising2 : List.lookup b_NOUGHT_raising K = some o_NOUGHT_raising2)
    (y_NOUGHT_raising2 : o_NOUGHT_raising2.cls = .type "tuple")
    (s_NOUGHT_raising2 : o_NOUGHT_raising2.data = .seq #[.int 0 u_NOUGHT_raising2, .int 1 v_NOUGHT_raising2] w_NOUGHT_raising2)
    (g_FIGURES : PySem.W.nsIn K mainGlobals "FIGURES" = some (some (.str "0123456789" t_FIGURES)))
    (g_MOST_FIGURES : PySem.W.nsIn K mainGlobals "MOST_FIGURES" = some (some (.int 100 t_MOST_FIGURES)))
    (g_MOST_PARTS : PySem.W.nsIn K mainGlobals "MOST_PARTS" = some (some (.int 12 t_MOST_PARTS)))
    (g_LETTERS : PySem.W.nsIn K mainGlobals "LETTERS" = some (some (.str "abcdefghijklmnopqrstuvwxyz" t_LETTERS)))
    (g_MOST_LETTERS : PySem.W.nsIn K mainGlobals "MOST_LETTERS" = some (some (.int 12 t_MOST_LETTERS)))
    (g_MOST_SMOOTH : PySem.W.nsIn K mainGlobals "MOST_SMOOTH" = some (some (.int 11 t_MOST_SMOOTH)))
    (g_SHAPES : PySem.W.nsIn K mainGlobals "SHAPES" = some (some (.ref c_SHAPES)))
    (l_SHAPES : List.lookup c_SHAPES K = some ⟨.type "dict", none, .dict es_SHAPES n_SHAPES, #[]⟩)
    (e_SHAPES : C7.EntT w.params es_SHAPES.toList kvs_SHAPES)
    (z_SHAPES : (c_SHAPES == sysModules) = false)
    (d_Sieve___init__ : InF K C_Sieve "Sieve.__init__" s_Sieve___init__ ["self", "one", "other"])
    (d_Sieve_look : MtF K C_Sieve "look" "Sieve.look" s_Sieve_look ["self", "pairs"])
    (d_Sieve_go_down : MtF K C_Sieve "go_down" "Sieve.go_down" s_Sieve_go_down ["self"])
    (d_Desk___init__ : InF K C_Desk "Desk.__init__" s_Desk___init__ ["self"])
    (d_Desk_say : MtF K C_Desk "say" "Desk.say" s_Desk_say ["self", "row"])
    (d_Desk_put : MtF K C_Desk "put" "Desk.put" s_Desk_put ["self", "name", "curve"])
    (d_Desk_compared : MtF K C_Desk "compared" "Desk.compared" s_Desk_compared ["self", "word", "one", "other", "last"])
    (d_Desk_asked : MtF K C_Desk "asked" "Desk.asked" s_Desk_asked ["self", "word", "curve", "parts"])
    (d_Desk_changed : MtF K C_Desk "changed" "Desk.changed" s_Desk_changed ["self", "word", "curve", "parts"])
    : ∃ st, LawF K mg st "_law_script" ∧ ∀ (base : Heap) (f : Addr) (fd : FuncData), Fun K "law" "law" st f fd → FnOk l.prog w K mg base (L2N.CX l.prog w) 14 f fd ["_law_script"] (spOf K ctLaw) :=
  ⟨s_law, d_law, fun base f fd F => ok_law { d_common_part := d_common_part, d_share := d_share, d_plus := d_plus, d_minus := d_minus, d_times := d_times, d_under := d_under, d_between := d_between, d_on_way := d_on_way, d_step := d_step, d_moved := d_moved, d_next_row := d_next_row, d_rows := d_rows, d_point := d_point, d_ways := d_ways, d_sum_of := d_sum_of, d_polar := d_polar, d_cut := d_cut, d_stretch := d_stretch, d_turned := d_turned, d_whole_points := d_whole_points, d_goes_left := d_goes_left, d_chain := d_chain, d_hull_of_whole := d_hull_of_whole, d_hull := d_hull, d_least_of := d_least_of, d_greatest_of := d_greatest_of, d_box := d_box, d_speed := d_speed, d_smoothness := d_smoothness, d_blend := d_blend, d_map_point := d_map_point, d_mapped := d_mapped, d_turn_of := d_turn_of, d_along := d_along, d_steps_between := d_steps_between, d_ahead_of := d_ahead_of, d_ahead_of_two := d_ahead_of_two, d_ahead_of_all := d_ahead_of_all, d_parts_of_two := d_parts_of_two, d_parts_of := d_parts_of, d_line_by := d_line_by, d_common_by := d_common_by, d_parting := d_parting, d_halved := d_halved, d_stretches := d_stretches, d_beneath := d_beneath, d_meets := d_meets, d_powers := d_powers, d_of_powers := d_of_powers, d_raised := d_raised, d_lowered := d_lowered, d_least := d_least, d_same := d_same, d_show_share := d_show_share, d_show_point := d_show_point, d_show_curve := d_show_curve, d_read_whole := d_read_whole, d_read_share := d_read_share, d_read_point := d_read_point, d_read_curve := d_read_curve, d_read_name := d_read_name, d_read_level := d_read_level, d_read_word := d_read_word, d_read_row := d_read_row, d__law_cell_at := d__law_cell_at, d__law_stream := d__law_stream, d__law_share := d__law_share, d__law_way := d__law_way, d__law_place := d__law_place, d__law_handed := d__law_handed, d__law_seats := d__law_seats, d__law_rows := d__law_rows, d__law_power := d__law_power, d__law_names := d__law_names, d__law_share_text := d__law_share_text, d__law_point_text := d__law_point_text, d__law_curve_text := d__law_curve_text, d__law_point_due := d__law_point_due, d__law_box_due := d__law_box_due, d__law_told := d__law_told, d__law_asked := d__law_asked, d__law_by_turns := d__law_by_turns, d_law := d_law, C_Sieve := C_Sieve, l_Sieve := ⟨⟨pg_Sieve, hd_Sieve, po_Sieve, sa_Sieve⟩, PySem.W.mg_of X G a_Sieve⟩, n_Sieve_level := n_Sieve_level, n_Sieve_ones := n_Sieve_ones, n_Sieve_others := n_Sieve_others, n_Sieve_pairs := n_Sieve_pairs, n_Sieve_thrown := n_Sieve_thrown, d_Sieve___init__ := d_Sieve___init__, d_Sieve_look := d_Sieve_look, d_Sieve_go_down := d_Sieve_go_down, C_Desk := C_Desk, l_Desk := ⟨⟨pg_Desk, hd_Desk, po_Desk, sa_Desk⟩, PySem.W.mg_of X G a_Desk⟩, n_Desk_book := n_Desk_book, d_Desk___init__ := d_Desk___init__, d_Desk_say := d_Desk_say, d_Desk_put := d_Desk_put, d_Desk_compared := d_Desk_compared, d_Desk_asked := d_Desk_asked, d_Desk_changed := d_Desk_changed, C_SeatError := C_SeatError, e_SeatError := ⟨PySem.W.mg_of X G a_SeatError, x_SeatError, k_SeatError, b_SeatError, t_SeatError, h_SeatError⟩, C_NoShare := C_NoShare, e_NoShare := ⟨PySem.W.mg_of X G a_NoShare, x_NoShare, k_NoShare, b_NoShare, t_NoShare, h_NoShare⟩, C_NoLower := C_NoLower, e_NoLower := ⟨PySem.W.mg_of X G a_NoLower, x_NoLower, k_NoLower, b_NoLower, t_NoLower, h_NoLower⟩, C_TooMany := C_TooMany, e_TooMany := ⟨PySem.W.mg_of X G a_TooMany, x_TooMany, k_TooMany, b_TooMany, t_TooMany, h_TooMany⟩, C_NoText := C_NoText, e_NoText := ⟨PySem.W.mg_of X G a_NoText, x_NoText, k_NoText, b_NoText, t_NoText, h_NoText⟩, C_NoName := C_NoName, e_NoName := ⟨PySem.W.mg_of X G a_NoName, x_NoName, k_NoName, b_NoName, t_NoName, h_NoName⟩, m_abs := PySem.W.mg_none_of X G m_abs, m_divmod := PySem.W.mg_none_of X G m_divmod, m_enumerate := PySem.W.mg_none_of X G m_enumerate, m_int := PySem.W.mg_none_of X G m_int, m_isinstance := PySem.W.mg_none_of X G m_isinstance, m_len := PySem.W.mg_none_of X G m_len, m_list := PySem.W.mg_none_of X G m_list, m_max := PySem.W.mg_none_of X G m_max, m_min := PySem.W.mg_none_of X G m_min, m_range := PySem.W.mg_none_of X G m_range, m_reversed := PySem.W.mg_none_of X G m_reversed, m_set := PySem.W.mg_none_of X G m_set, m_sorted := PySem.W.mg_none_of X G m_sorted, m_str := PySem.W.mg_none_of X G m_str, m_sum := PySem.W.mg_none_of X G m_sum, m_tuple := PySem.W.mg_none_of X G m_tuple, m_zip := PySem.W.mg_none_of X G m_zip, c_NOUGHT_curves := c_NOUGHT_curves, g_NOUGHT_curves := PySem.W.mg_of X G g_NOUGHT_curves, r_NOUGHT_curves := kTup2 l_NOUGHT_curves y_NOUGHT_curves s_NOUGHT_curves, c_NOUGHT_partings := c_NOUGHT_partings, g_NOUGHT_partings := PySem.W.mg_of X G g_NOUGHT_partings, r_NOUGHT_partings := kTup2 l_NOUGHT_partings y_NOUGHT_partings s_NOUGHT_partings, c_HALF := c_HALF, g_HALF := PySem.W.mg_of X G g_HALF, r_HALF := kTup2 l_HALF y_HALF s_HALF, g_MOST_PAIRS := ⟨_, PySem.W.mg_of X G g_MOST_PAIRS⟩, g_MOST_SEATS := ⟨_, PySem.W.mg_of X G g_MOST_SEATS⟩, c_NOUGHT_raising := c_NOUGHT_raising, g_NOUGHT_raising := PySem.W.mg_of X G g_NOUGHT_raising, r_NOUGHT_raising := fun H => kTupP l_NOUGHT_raising y_NOUGHT_raising s_NOUGHT_raising (kTup2 l_NOUGHT_raising1 y_NOUGHT_raising1 s_NOUGHT_raising1) (kTup2 l_NOUGHT_raising2 y_NOUGHT_raising2 s_NOUGHT_raising2) H, g_FIGURES := ⟨_, PySem.W.mg_of X G g_FIGURES⟩, g_MOST_FIGURES := ⟨_, PySem.W.mg_of X G g_MOST_FIGURES⟩, g_MOST_PARTS := ⟨_, PySem.W.mg_of X G g_MOST_PARTS⟩, g_LETTERS := ⟨_, PySem.W.mg_of X G g_LETTERS⟩, g_MOST_LETTERS := ⟨_, PySem.W.mg_of X G g_MOST_LETTERS⟩, g_MOST_SMOOTH := ⟨_, PySem.W.mg_of X G g_MOST_SMOOTH⟩, c_SHAPES := c_SHAPES, g_SHAPES := PySem.W.mg_of X G g_SHAPES } ⟨C7.kdS_of l_SHAPES e_SHAPES z_SHAPES⟩ F⟩
end Lw
open PySem PySem.W PyProof.Rows
set_option maxHeartbeats 0 in
theorem PySem.Challenge.cw_curveseat_k82_rows_answered_holds : PySem.Challenge.rw_curveseat_k82_rows_answered.Holds := by
  w_on; o_law; k_head; (case hw => w_witness2)
  k_fill
  refine C7.walk_c7 (l := PySem.Challenge.rw_curveseat_k82_rows_answered) (k := 14) (x := "_law_script") rfl rfl rfl ⟨rfl, by decide, by decide⟩ (fun w h Y => PySem.W.kIn_of Y) ?F
  case F =>
    intro w mg h KX G
    refine' Lw.fin KX G ?d_common_part ?d_share ?d_plus ?d_minus ?d_times ?d_under ?d_between ?d_on_way ?d_step ?d_moved ?d_next_row ?d_rows ?d_point ?d_ways ?d_sum_of ?d_polar ?d_cut ?d_stretch ?d_turned ?d_whole_points ?d_goes_left ?d_chain ?d_hull_of_whole ?d_hull ?d_least_of ?d_greatest_of ?d_box ?d_speed ?d_smoothness ?d_blend ?d_map_point ?d_mapped ?d_turn_of ?d_along ?d_steps_between ?d_ahead_of ?d_ahead_of_two ?d_ahead_of_all ?d_parts_of_two ?d_parts_of ?d_line_by ?d_common_by ?d_parting ?d_halved ?d_stretches ?d_beneath ?d_meets ?d_powers ?d_of_powers ?d_raised ?d_lowered ?d_least ?d_same ?d_show_share ?d_show_point ?d_show_curve ?d_read_whole ?d_read_share ?d_read_point ?d_read_curve ?d_read_name ?d_read_level ?d_read_word ?d_read_row ?d__law_cell_at ?d__law_stream ?d__law_share ?d__law_way ?d__law_place ?d__law_handed ?d__law_seats ?d__law_rows ?d__law_power ?d__law_names ?d__law_share_text ?d__law_point_text ?d__law_curve_text ?d__law_point_due ?d__law_box_due ?d__law_told ?d__law_asked ?d__law_by_turns ?d_law ?a_Sieve ?pg_Sieve ?hd_Sieve ?po_Sieve ?sa_Sieve ?n_Sieve_level ?n_Sieve_ones ?n_Sieve_others ?n_Sieve_pairs ?n_Sieve_thrown ?a_Desk ?pg_Desk ?hd_Desk ?po_Desk ?sa_Desk ?n_Desk_book ?a_SeatError ?x_SeatError ?k_SeatError ?b_SeatError ?t_SeatError ?h_SeatError ?a_NoShare ?x_NoShare ?k_NoShare ?b_NoShare ?t_NoShare ?h_NoShare ?a_NoLower ?x_NoLower ?k_NoLower ?b_NoLower ?t_NoLower ?h_NoLower ?a_TooMany ?x_TooMany ?k_TooMany ?b_TooMany ?t_TooMany ?h_TooMany ?a_NoText ?x_NoText ?k_NoText ?b_NoText ?t_NoText ?h_NoText ?a_NoName ?x_NoName ?k_NoName ?b_NoName ?t_NoName ?h_NoName ?m_abs ?m_divmod ?m_enumerate ?m_int ?m_isinstance ?m_len ?m_list ?m_max ?m_min ?m_range ?m_reversed ?m_set ?m_sorted ?m_str ?m_sum ?m_tuple ?m_zip ?g_NOUGHT_curves ?l_NOUGHT_curves ?y_NOUGHT_curves ?s_NOUGHT_curves ?g_NOUGHT_partings ?l_NOUGHT_partings ?y_NOUGHT_partings ?s_NOUGHT_partings ?g_HALF ?l_HALF ?y_HALF ?s_HALF ?g_MOST_PAIRS ?g_MOST_SEATS ?g_NOUGHT_raising ?l_NOUGHT_raising ?y_NOUGHT_raising ?s_NOUGHT_raising ?l_NOUGHT_raising1 ?y_NOUGHT_raising1 ?s_NOUGHT_raising1 ?l_NOUGHT_raising2 ?y_NOUGHT_raising2 ?s_NOUGHT_raising2 ?g_FIGURES ?g_MOST_FIGURES ?g_MOST_PARTS ?g_LETTERS ?g_MOST_LETTERS ?g_MOST_SMOOTH ?g_SHAPES ?l_SHAPES ?e_SHAPES ?z_SHAPES ?d_Sieve___init__ ?d_Sieve_look ?d_Sieve_go_down ?d_Desk___init__ ?d_Desk_say ?d_Desk_put ?d_Desk_compared ?d_Desk_asked ?d_Desk_changed
    case d_common_part => (refine' C7.def_mk KX G ?a ?l ?c ?k (fun _ _ _ _ _ _ us hl => match us, hl with | [_, _], _ => rfl); (case a => k_is); (case l => k_is); (case c => k_is); (case k => k_is))
    case d_share => (refine' C7.def_mk KX G ?a ?l ?c ?k (fun _ _ _ _ _ _ us hl => match us, hl with | [_, _], _ => rfl); (case a => k_is); (case l => k_is); (case c => k_is); (case k => k_is))
    case d_plus => (refine' C7.def_mk KX G ?a ?l ?c ?k (fun _ _ _ _ _ _ us hl => match us, hl with | [_, _], _ => rfl); (case a => k_is); (case l => k_is); (case c => k_is); (case k => k_is))
    case d_minus => (refine' C7.def_mk KX G ?a ?l ?c ?k (fun _ _ _ _ _ _ us hl => match us, hl with | [_, _], _ => rfl); (case a => k_is); (case l => k_is); (case c => k_is); (case k => k_is))
    case d_times => (refine' C7.def_mk KX G ?a ?l ?c ?k (fun _ _ _ _ _ _ us hl => match us, hl with | [_, _], _ => rfl); (case a => k_is); (case l => k_is); (case c => k_is); (case k => k_is))
    case d_under => (refine' C7.def_mk KX G ?a ?l ?c ?k (fun _ _ _ _ _ _ us hl => match us, hl with | [_, _], _ => rfl); (case a => k_is); (case l => k_is); (case c => k_is); (case k => k_is))
    case d_between => (refine' C7.def_mk KX G ?a ?l ?c ?k (fun _ _ _ _ _ _ us hl => match us, hl with | [_, _, _], _ => rfl); (case a => k_is); (case l => k_is); (case c => k_is); (case k => k_is))
    case d_on_way => (refine' C7.def_mk KX G ?a ?l ?c ?k (fun _ _ _ _ _ _ us hl => match us, hl with | [_, _, _], _ => rfl); (case a => k_is); (case l => k_is); (case c => k_is); (case k => k_is))
    case d_step => (refine' C7.def_mk KX G ?a ?l ?c ?k (fun _ _ _ _ _ _ us hl => match us, hl with | [_, _], _ => rfl); (case a => k_is); (case l => k_is); (case c => k_is); (case k => k_is))
    case d_moved => (refine' C7.def_mk KX G ?a ?l ?c ?k (fun _ _ _ _ _ _ us hl => match us, hl with | [_, _, _], _ => rfl); (case a => k_is); (case l => k_is); (case c => k_is); (case k => k_is))
    case d_next_row => (refine' C7.def_mk KX G ?a ?l ?c ?k (fun _ _ _ _ _ _ us hl => match us, hl with | [_, _], _ => rfl); (case a => k_is); (case l => k_is); (case c => k_is); (case k => k_is))
    case d_rows => (refine' C7.def_mk KX G ?a ?l ?c ?k (fun _ _ _ _ _ _ us hl => match us, hl with | [_, _], _ => rfl); (case a => k_is); (case l => k_is); (case c => k_is); (case k => k_is))
    case d_point => (refine' C7.def_mk KX G ?a ?l ?c ?k (fun _ _ _ _ _ _ us hl => match us, hl with | [_, _], _ => rfl); (case a => k_is); (case l => k_is); (case c => k_is); (case k => k_is))
    case d_ways => (refine' C7.def_mk KX G ?a ?l ?c ?k (fun _ _ _ _ _ _ us hl => match us, hl with | [_], _ => rfl); (case a => k_is); (case l => k_is); (case c => k_is); (case k => k_is))
    case d_sum_of => (refine' C7.def_mk KX G ?a ?l ?c ?k (fun _ _ _ _ _ _ us hl => match us, hl with | [_, _], _ => rfl); (case a => k_is); (case l => k_is); (case c => k_is); (case k => k_is))
    case d_polar => (refine' C7.def_mk KX G ?a ?l ?c ?k (fun _ _ _ _ _ _ us hl => match us, hl with | [_, _], _ => rfl); (case a => k_is); (case l => k_is); (case c => k_is); (case k => k_is))
    case d_cut => (refine' C7.def_mk KX G ?a ?l ?c ?k (fun _ _ _ _ _ _ us hl => match us, hl with | [_, _], _ => rfl); (case a => k_is); (case l => k_is); (case c => k_is); (case k => k_is))
    case d_stretch => (refine' C7.def_mk KX G ?a ?l ?c ?k (fun _ _ _ _ _ _ us hl => match us, hl with | [_, _, _], _ => rfl); (case a => k_is); (case l => k_is); (case c => k_is); (case k => k_is))
    case d_turned => (refine' C7.def_mk KX G ?a ?l ?c ?k (fun _ _ _ _ _ _ us hl => match us, hl with | [_], _ => rfl); (case a => k_is); (case l => k_is); (case c => k_is); (case k => k_is))
    case d_whole_points => (refine' C7.def_mk KX G ?a ?l ?c ?k (fun _ _ _ _ _ _ us hl => match us, hl with | [_], _ => rfl); (case a => k_is); (case l => k_is); (case c => k_is); (case k => k_is))
    case d_goes_left => (refine' C7.def_mk KX G ?a ?l ?c ?k (fun _ _ _ _ _ _ us hl => match us, hl with | [_, _, _], _ => rfl); (case a => k_is); (case l => k_is); (case c => k_is); (case k => k_is))
    case d_chain => (refine' C7.def_mk KX G ?a ?l ?c ?k (fun _ _ _ _ _ _ us hl => match us, hl with | [_], _ => rfl); (case a => k_is); (case l => k_is); (case c => k_is); (case k => k_is))
    case d_hull_of_whole => (refine' C7.def_mk KX G ?a ?l ?c ?k (fun _ _ _ _ _ _ us hl => match us, hl with | [_], _ => rfl); (case a => k_is); (case l => k_is); (case c => k_is); (case k => k_is))
    case d_hull => (refine' C7.def_mk KX G ?a ?l ?c ?k (fun _ _ _ _ _ _ us hl => match us, hl with | [_], _ => rfl); (case a => k_is); (case l => k_is); (case c => k_is); (case k => k_is))
    case d_least_of => (refine' C7.def_mk KX G ?a ?l ?c ?k (fun _ _ _ _ _ _ us hl => match us, hl with | [_], _ => rfl); (case a => k_is); (case l => k_is); (case c => k_is); (case k => k_is))
    case d_greatest_of => (refine' C7.def_mk KX G ?a ?l ?c ?k (fun _ _ _ _ _ _ us hl => match us, hl with | [_], _ => rfl); (case a => k_is); (case l => k_is); (case c => k_is); (case k => k_is))
    case d_box => (refine' C7.def_mk KX G ?a ?l ?c ?k (fun _ _ _ _ _ _ us hl => match us, hl with | [_], _ => rfl); (case a => k_is); (case l => k_is); (case c => k_is); (case k => k_is))
    case d_speed => (refine' C7.def_mk KX G ?a ?l ?c ?k (fun _ _ _ _ _ _ us hl => match us, hl with | [_], _ => rfl); (case a => k_is); (case l => k_is); (case c => k_is); (case k => k_is))
    case d_smoothness => (refine' C7.def_mk KX G ?a ?l ?c ?k (fun _ _ _ _ _ _ us hl => match us, hl with | [_, _, _], _ => rfl); (case a => k_is); (case l => k_is); (case c => k_is); (case k => k_is))
    case d_blend => (refine' C7.def_mk KX G ?a ?l ?c ?k (fun _ _ _ _ _ _ us hl => match us, hl with | [_, _, _, _], _ => rfl); (case a => k_is); (case l => k_is); (case c => k_is); (case k => k_is))
    case d_map_point => (refine' C7.def_mk KX G ?a ?l ?c ?k (fun _ _ _ _ _ _ us hl => match us, hl with | [_, _], _ => rfl); (case a => k_is); (case l => k_is); (case c => k_is); (case k => k_is))
    case d_mapped => (refine' C7.def_mk KX G ?a ?l ?c ?k (fun _ _ _ _ _ _ us hl => match us, hl with | [_, _], _ => rfl); (case a => k_is); (case l => k_is); (case c => k_is); (case k => k_is))
    case d_turn_of => (refine' C7.def_mk KX G ?a ?l ?c ?k (fun _ _ _ _ _ _ us hl => match us, hl with | [_, _], _ => rfl); (case a => k_is); (case l => k_is); (case c => k_is); (case k => k_is))
    case d_along => (refine' C7.def_mk KX G ?a ?l ?c ?k (fun _ _ _ _ _ _ us hl => match us, hl with | [_, _], _ => rfl); (case a => k_is); (case l => k_is); (case c => k_is); (case k => k_is))
    case d_steps_between => (refine' C7.def_mk KX G ?a ?l ?c ?k (fun _ _ _ _ _ _ us hl => match us, hl with | [_, _], _ => rfl); (case a => k_is); (case l => k_is); (case c => k_is); (case k => k_is))
    case d_ahead_of => (refine' C7.def_mk KX G ?a ?l ?c ?k (fun _ _ _ _ _ _ us hl => match us, hl with | [_], _ => rfl); (case a => k_is); (case l => k_is); (case c => k_is); (case k => k_is))
    case d_ahead_of_two => (refine' C7.def_mk KX G ?a ?l ?c ?k (fun _ _ _ _ _ _ us hl => match us, hl with | [_, _], _ => rfl); (case a => k_is); (case l => k_is); (case c => k_is); (case k => k_is))
    case d_ahead_of_all => (refine' C7.def_mk KX G ?a ?l ?c ?k (fun _ _ _ _ _ _ us hl => match us, hl with | [_], _ => rfl); (case a => k_is); (case l => k_is); (case c => k_is); (case k => k_is))
    case d_parts_of_two => (refine' C7.def_mk KX G ?a ?l ?c ?k (fun _ _ _ _ _ _ us hl => match us, hl with | [_, _], _ => rfl); (case a => k_is); (case l => k_is); (case c => k_is); (case k => k_is))
    case d_parts_of => (refine' C7.def_mk KX G ?a ?l ?c ?k (fun _ _ _ _ _ _ us hl => match us, hl with | [_], _ => rfl); (case a => k_is); (case l => k_is); (case c => k_is); (case k => k_is))
    case d_line_by => (refine' C7.def_mk KX G ?a ?l ?c ?k (fun _ _ _ _ _ _ us hl => match us, hl with | [_, _, _, _], _ => rfl); (case a => k_is); (case l => k_is); (case c => k_is); (case k => k_is))
    case d_common_by => (refine' C7.def_mk KX G ?a ?l ?c ?k (fun _ _ _ _ _ _ us hl => match us, hl with | [_, _, _, _], _ => rfl); (case a => k_is); (case l => k_is); (case c => k_is); (case k => k_is))
    case d_parting => (refine' C7.def_mk KX G ?a ?l ?c ?k (fun _ _ _ _ _ _ us hl => match us, hl with | [_, _], _ => rfl); (case a => k_is); (case l => k_is); (case c => k_is); (case k => k_is))
    case d_halved => (refine' C7.def_mk KX G ?a ?l ?c ?k (fun _ _ _ _ _ _ us hl => match us, hl with | [_], _ => rfl); (case a => k_is); (case l => k_is); (case c => k_is); (case k => k_is))
    case d_stretches => (refine' C7.def_mk KX G ?a ?l ?c ?k (fun _ _ _ _ _ _ us hl => match us, hl with | [_, _], _ => rfl); (case a => k_is); (case l => k_is); (case c => k_is); (case k => k_is))
    case d_beneath => (refine' C7.def_mk KX G ?a ?l ?c ?k (fun _ _ _ _ _ _ us hl => match us, hl with | [_], _ => rfl); (case a => k_is); (case l => k_is); (case c => k_is); (case k => k_is))
    case d_meets => (refine' C7.def_mk KX G ?a ?l ?c ?k (fun _ _ _ _ _ _ us hl => match us, hl with | [_, _, _], _ => rfl); (case a => k_is); (case l => k_is); (case c => k_is); (case k => k_is))
    case d_powers => (refine' C7.def_mk KX G ?a ?l ?c ?k (fun _ _ _ _ _ _ us hl => match us, hl with | [_], _ => rfl); (case a => k_is); (case l => k_is); (case c => k_is); (case k => k_is))
    case d_of_powers => (refine' C7.def_mk KX G ?a ?l ?c ?k (fun _ _ _ _ _ _ us hl => match us, hl with | [_], _ => rfl); (case a => k_is); (case l => k_is); (case c => k_is); (case k => k_is))
    case d_raised => (refine' C7.def_mk KX G ?a ?l ?c ?k (fun _ _ _ _ _ _ us hl => match us, hl with | [_], _ => rfl); (case a => k_is); (case l => k_is); (case c => k_is); (case k => k_is))
    case d_lowered => (refine' C7.def_mk KX G ?a ?l ?c ?k (fun _ _ _ _ _ _ us hl => match us, hl with | [_], _ => rfl); (case a => k_is); (case l => k_is); (case c => k_is); (case k => k_is))
    case d_least => (refine' C7.def_mk KX G ?a ?l ?c ?k (fun _ _ _ _ _ _ us hl => match us, hl with | [_], _ => rfl); (case a => k_is); (case l => k_is); (case c => k_is); (case k => k_is))
    case d_same => (refine' C7.def_mk KX G ?a ?l ?c ?k (fun _ _ _ _ _ _ us hl => match us, hl with | [_, _], _ => rfl); (case a => k_is); (case l => k_is); (case c => k_is); (case k => k_is))
    case d_show_share => (refine' C7.def_mk KX G ?a ?l ?c ?k (fun _ _ _ _ _ _ us hl => match us, hl with | [_], _ => rfl); (case a => k_is); (case l => k_is); (case c => k_is); (case k => k_is))
    case d_show_point => (refine' C7.def_mk KX G ?a ?l ?c ?k (fun _ _ _ _ _ _ us hl => match us, hl with | [_], _ => rfl); (case a => k_is); (case l => k_is); (case c => k_is); (case k => k_is))
    case d_show_curve => (refine' C7.def_mk KX G ?a ?l ?c ?k (fun _ _ _ _ _ _ us hl => match us, hl with | [_], _ => rfl); (case a => k_is); (case l => k_is); (case c => k_is); (case k => k_is))
    case d_read_whole => (refine' C7.def_mk KX G ?a ?l ?c ?k (fun _ _ _ _ _ _ us hl => match us, hl with | [_], _ => rfl); (case a => k_is); (case l => k_is); (case c => k_is); (case k => k_is))
    case d_read_share => (refine' C7.def_mk KX G ?a ?l ?c ?k (fun _ _ _ _ _ _ us hl => match us, hl with | [_], _ => rfl); (case a => k_is); (case l => k_is); (case c => k_is); (case k => k_is))
    case d_read_point => (refine' C7.def_mk KX G ?a ?l ?c ?k (fun _ _ _ _ _ _ us hl => match us, hl with | [_], _ => rfl); (case a => k_is); (case l => k_is); (case c => k_is); (case k => k_is))
    case d_read_curve => (refine' C7.def_mk KX G ?a ?l ?c ?k (fun _ _ _ _ _ _ us hl => match us, hl with | [_], _ => rfl); (case a => k_is); (case l => k_is); (case c => k_is); (case k => k_is))
    case d_read_name => (refine' C7.def_mk KX G ?a ?l ?c ?k (fun _ _ _ _ _ _ us hl => match us, hl with | [_], _ => rfl); (case a => k_is); (case l => k_is); (case c => k_is); (case k => k_is))
    case d_read_level => (refine' C7.def_mk KX G ?a ?l ?c ?k (fun _ _ _ _ _ _ us hl => match us, hl with | [_], _ => rfl); (case a => k_is); (case l => k_is); (case c => k_is); (case k => k_is))
    case d_read_word => (refine' C7.def_mk KX G ?a ?l ?c ?k (fun _ _ _ _ _ _ us hl => match us, hl with | [_, _], _ => rfl); (case a => k_is); (case l => k_is); (case c => k_is); (case k => k_is))
    case d_read_row => (refine' C7.def_mk KX G ?a ?l ?c ?k (fun _ _ _ _ _ _ us hl => match us, hl with | [_], _ => rfl); (case a => k_is); (case l => k_is); (case c => k_is); (case k => k_is))
    case d__law_cell_at => (refine' C7.def_mk KX G ?a ?l ?c ?k (fun _ _ _ _ _ _ us hl => match us, hl with | [_, _], _ => rfl); (case a => k_is); (case l => k_is); (case c => k_is); (case k => k_is))
    case d__law_stream => (refine' C7.def_mk KX G ?a ?l ?c ?k (fun _ _ _ _ _ _ us hl => match us, hl with | [_, _], _ => rfl); (case a => k_is); (case l => k_is); (case c => k_is); (case k => k_is))
    case d__law_share => (refine' C7.def_mk KX G ?a ?l ?c ?k (fun _ _ _ _ _ _ us hl => match us, hl with | [_, _], _ => rfl); (case a => k_is); (case l => k_is); (case c => k_is); (case k => k_is))
    case d__law_way => (refine' C7.def_mk KX G ?a ?l ?c ?k (fun _ _ _ _ _ _ us hl => match us, hl with | [_], _ => rfl); (case a => k_is); (case l => k_is); (case c => k_is); (case k => k_is))
    case d__law_place => (refine' C7.def_mk KX G ?a ?l ?c ?k (fun _ _ _ _ _ _ us hl => match us, hl with | [_, _], _ => rfl); (case a => k_is); (case l => k_is); (case c => k_is); (case k => k_is))
    case d__law_handed => (refine' C7.def_mk KX G ?a ?l ?c ?k (fun _ _ _ _ _ _ us hl => match us, hl with | [_, _], _ => rfl); (case a => k_is); (case l => k_is); (case c => k_is); (case k => k_is))
    case d__law_seats => (refine' C7.def_mk KX G ?a ?l ?c ?k (fun _ _ _ _ _ _ us hl => match us, hl with | [_, _, _], _ => rfl); (case a => k_is); (case l => k_is); (case c => k_is); (case k => k_is))
    case d__law_rows => (refine' C7.def_mk KX G ?a ?l ?c ?k (fun _ _ _ _ _ _ us hl => match us, hl with | [_, _], _ => rfl); (case a => k_is); (case l => k_is); (case c => k_is); (case k => k_is))
    case d__law_power => (refine' C7.def_mk KX G ?a ?l ?c ?k (fun _ _ _ _ _ _ us hl => match us, hl with | [_, _], _ => rfl); (case a => k_is); (case l => k_is); (case c => k_is); (case k => k_is))
    case d__law_names => (refine' C7.def_mk KX G ?a ?l ?c ?k (fun _ _ _ _ _ _ us hl => match us, hl with | [_, _], _ => rfl); (case a => k_is); (case l => k_is); (case c => k_is); (case k => k_is))
    case d__law_share_text => (refine' C7.def_mk KX G ?a ?l ?c ?k (fun _ _ _ _ _ _ us hl => match us, hl with | [_], _ => rfl); (case a => k_is); (case l => k_is); (case c => k_is); (case k => k_is))
    case d__law_point_text => (refine' C7.def_mk KX G ?a ?l ?c ?k (fun _ _ _ _ _ _ us hl => match us, hl with | [_], _ => rfl); (case a => k_is); (case l => k_is); (case c => k_is); (case k => k_is))
    case d__law_curve_text => (refine' C7.def_mk KX G ?a ?l ?c ?k (fun _ _ _ _ _ _ us hl => match us, hl with | [_], _ => rfl); (case a => k_is); (case l => k_is); (case c => k_is); (case k => k_is))
    case d__law_point_due => (refine' C7.def_mk KX G ?a ?l ?c ?k (fun _ _ _ _ _ _ us hl => match us, hl with | [_, _, _], _ => rfl); (case a => k_is); (case l => k_is); (case c => k_is); (case k => k_is))
    case d__law_box_due => (refine' C7.def_mk KX G ?a ?l ?c ?k (fun _ _ _ _ _ _ us hl => match us, hl with | [_, _], _ => rfl); (case a => k_is); (case l => k_is); (case c => k_is); (case k => k_is))
    case d__law_told => (refine' C7.def_mk KX G ?a ?l ?c ?k (fun _ _ _ _ _ _ us hl => match us, hl with | [_, _, _, _], _ => rfl); (case a => k_is); (case l => k_is); (case c => k_is); (case k => k_is))
    case d__law_asked => (refine' C7.def_mk KX G ?a ?l ?c ?k (fun _ _ _ _ _ _ us hl => match us, hl with | [_, _, _, _], _ => rfl); (case a => k_is); (case l => k_is); (case c => k_is); (case k => k_is))
    case d__law_by_turns => (refine' C7.def_mk KX G ?a ?l ?c ?k (fun _ _ _ _ _ _ us hl => match us, hl with | [_, _, _, _], _ => rfl); (case a => k_is); (case l => k_is); (case c => k_is); (case k => k_is))
    case d_law => (refine' C7.law_mk KX G ?a ?l ?c ?k (fun _ _ _ _ _ _ v => rfl); (case a => k_is); (case l => k_is); (case c => k_is); (case k => k_is))
    case a_Sieve => k_is
    case pg_Sieve => k_is
    case hd_Sieve => k_is
    case po_Sieve => k_is
    case sa_Sieve => k_is
    case n_Sieve_level => k_is
    case n_Sieve_ones => k_is
    case n_Sieve_others => k_is
    case n_Sieve_pairs => k_is
    case n_Sieve_thrown => k_is
    case a_Desk => k_is
    case pg_Desk => k_is
    case hd_Desk => k_is
    case po_Desk => k_is
    case sa_Desk => k_is
    case n_Desk_book => k_is
    case a_SeatError => k_is
    case x_SeatError => k_exc
    case k_SeatError => k_is
    case b_SeatError => k_is
    case t_SeatError => k_is
    case h_SeatError => k_is
    case a_NoShare => k_is
    case x_NoShare => k_exc
    case k_NoShare => k_is
    case b_NoShare => k_is
    case t_NoShare => k_is
    case h_NoShare => k_is
    case a_NoLower => k_is
    case x_NoLower => k_exc
    case k_NoLower => k_is
    case b_NoLower => k_is
    case t_NoLower => k_is
    case h_NoLower => k_is
    case a_TooMany => k_is
    case x_TooMany => k_exc
    case k_TooMany => k_is
    case b_TooMany => k_is
    case t_TooMany => k_is
    case h_TooMany => k_is
    case a_NoText => k_is
    case x_NoText => k_exc
    case k_NoText => k_is
    case b_NoText => k_is
    case t_NoText => k_is
    case h_NoText => k_is
    case a_NoName => k_is
    case x_NoName => k_exc
    case k_NoName => k_is
    case b_NoName => k_is
    case t_NoName => k_is
    case h_NoName => k_is
    case m_abs => k_is
    case m_divmod => k_is
    case m_enumerate => k_is
    case m_int => k_is
    case m_isinstance => k_is
    case m_len => k_is
    case m_list => k_is
    case m_max => k_is
    case m_min => k_is
    case m_range => k_is
    case m_reversed => k_is
    case m_set => k_is
    case m_sorted => k_is
    case m_str => k_is
    case m_sum => k_is
    case m_tuple => k_is
    case m_zip => k_is
    case g_NOUGHT_curves => k_is
    case l_NOUGHT_curves => k_is
    case y_NOUGHT_curves => rfl
    case s_NOUGHT_curves => rfl
    case g_NOUGHT_partings => k_is
    case l_NOUGHT_partings => k_is
    case y_NOUGHT_partings => rfl
    case s_NOUGHT_partings => rfl
    case g_HALF => k_is
    case l_HALF => k_is
    case y_HALF => rfl
    case s_HALF => rfl
    case g_MOST_PAIRS => k_is
    case g_MOST_SEATS => k_is
    case g_NOUGHT_raising => k_is
    case l_NOUGHT_raising => k_is
    case y_NOUGHT_raising => rfl
    case s_NOUGHT_raising => rfl
    case l_NOUGHT_raising1 => k_is
    case y_NOUGHT_raising1 => rfl
    case s_NOUGHT_raising1 => rfl
    case l_NOUGHT_raising2 => k_is
    case y_NOUGHT_raising2 => rfl
    case s_NOUGHT_raising2 => rfl
    case g_FIGURES => k_is
    case g_MOST_FIGURES => k_is
    case g_MOST_PARTS => k_is
    case g_LETTERS => k_is
    case g_MOST_LETTERS => k_is
    case g_MOST_SMOOTH => k_is
    case g_SHAPES => k_is
    case l_SHAPES => k_is
    case e_SHAPES => exact C7.entT_cons ⟨_, _, rfl, rfl, rfl⟩ (C7.entT_cons ⟨_, _, rfl, rfl, rfl⟩ (C7.entT_cons ⟨_, _, rfl, rfl, rfl⟩ (C7.entT_cons ⟨_, _, rfl, rfl, rfl⟩ (C7.entT_cons ⟨_, _, rfl, rfl, rfl⟩ (C7.entT_cons ⟨_, _, rfl, rfl, rfl⟩ (C7.entT_cons ⟨_, _, rfl, rfl, rfl⟩ (C7.entT_cons ⟨_, _, rfl, rfl, rfl⟩ (C7.entT_cons ⟨_, _, rfl, rfl, rfl⟩ (C7.entT_cons ⟨_, _, rfl, rfl, rfl⟩ (C7.entT_cons ⟨_, _, rfl, rfl, rfl⟩ (C7.entT_cons ⟨_, _, rfl, rfl, rfl⟩ (C7.entT_cons ⟨_, _, rfl, rfl, rfl⟩ (C7.entT_cons ⟨_, _, rfl, rfl, rfl⟩ (C7.entT_cons ⟨_, _, rfl, rfl, rfl⟩ (C7.entT_cons ⟨_, _, rfl, rfl, rfl⟩ (C7.entT_cons ⟨_, _, rfl, rfl, rfl⟩ (C7.entT_nil)))))))))))))))))
    case z_SHAPES => rfl
    case d_Sieve___init__ => (refine' C7.inf_mk ?mk ?kc ?a ?i ?l ?c ?k (fun _ _ _ _ _ _ us hl => match us, hl with | [_, _, _], _ => rfl); (case mk => k_is); (case kc => k_is); (case a => k_is); (case i => k_is); (case l => k_is); (case c => k_is); (case k => k_is))
    case d_Sieve_look => (refine' C7.mtf_mk ?a ?i ?l ?c ?k (fun _ _ _ _ _ _ us hl => match us, hl with | [_, _], _ => rfl); (case a => k_is); (case i => k_is); (case l => k_is); (case c => k_is); (case k => k_is))
    case d_Sieve_go_down => (refine' C7.mtf_mk ?a ?i ?l ?c ?k (fun _ _ _ _ _ _ us hl => match us, hl with | [_], _ => rfl); (case a => k_is); (case i => k_is); (case l => k_is); (case c => k_is); (case k => k_is))
    case d_Desk___init__ => (refine' C7.inf_mk ?mk ?kc ?a ?i ?l ?c ?k (fun _ _ _ _ _ _ us hl => match us, hl with | [_], _ => rfl); (case mk => k_is); (case kc => k_is); (case a => k_is); (case i => k_is); (case l => k_is); (case c => k_is); (case k => k_is))
    case d_Desk_say => (refine' C7.mtf_mk ?a ?i ?l ?c ?k (fun _ _ _ _ _ _ us hl => match us, hl with | [_, _], _ => rfl); (case a => k_is); (case i => k_is); (case l => k_is); (case c => k_is); (case k => k_is))
    case d_Desk_put => (refine' C7.mtf_mk ?a ?i ?l ?c ?k (fun _ _ _ _ _ _ us hl => match us, hl with | [_, _, _], _ => rfl); (case a => k_is); (case i => k_is); (case l => k_is); (case c => k_is); (case k => k_is))
    case d_Desk_compared => (refine' C7.mtf_mk ?a ?i ?l ?c ?k (fun _ _ _ _ _ _ us hl => match us, hl with | [_, _, _, _, _], _ => rfl); (case a => k_is); (case i => k_is); (case l => k_is); (case c => k_is); (case k => k_is))
    case d_Desk_asked => (refine' C7.mtf_mk ?a ?i ?l ?c ?k (fun _ _ _ _ _ _ us hl => match us, hl with | [_, _, _, _], _ => rfl); (case a => k_is); (case i => k_is); (case l => k_is); (case c => k_is); (case k => k_is))
    case d_Desk_changed => (refine' C7.mtf_mk ?a ?i ?l ?c ?k (fun _ _ _ _ _ _ us hl => match us, hl with | [_, _, _, _], _ => rfl); (case a => k_is); (case i => k_is); (case l => k_is); (case c => k_is); (case k => k_is))
