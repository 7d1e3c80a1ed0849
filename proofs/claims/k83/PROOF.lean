import PyProof.Rows.All
import Wide.All
import OpenK.AllK
import Wide.FinOn
import HandS.ForMost
import HandS.ForExc
import HandS.Wide
import HandS.WideBits
import HandS.IsInst
import HandS.ExcIs
import HandS.Flow
import HandS.Style
import KE.KDictKeyed
import HandS.More
import HandS.ExcCtx
import HandS.HotCalls
import HandS.RevTup
import HandS.Rev
import HandS.TupSets
import KE.SortData
import KE.DataMinMax
import KE.KIsAll
import KE.KExcIs
import HandS.Text
import KE.GoesRaise
import KE.GoesMore
import KE.GoesEnum
import HandS.DictComp
import HandS.RaiseOp
import PySem.Challenge.RW_curveseat_k83_rows_refused
set_option Elab.async false
set_option linter.all false
set_option maxRecDepth 100000
set_option maxHeartbeats 4000000
namespace C7
open PySem PySem.Spec PyProof.Rows L2

/-! ### data: tuples by value, other objects by address -/
inductive D where
  | non | bl (b : Bool) | int (i : Int) | str (x : Str) | ref (a : Addr) | ty (n : String) | tup (ds : List D) | cl (ds : List D) | fz (ds : List D)

abbrev Frag := PySem.W.Frag

/-- tuples and locked things stay -/
structure TS (H H' : Hp) : Prop where
  t : ∀ b xs, H b = some (.tup xs) → H' b = some (.tup xs)
  z : ∀ b o u, H b = some (.frz o u) → (∀ ks, u ≠ HO.dK ks) → H' b = some (.frz o u)
theorem TS.refl (H : Hp) : TS H H := ⟨fun _ _ h => h, fun _ _ _ h _ => h⟩
theorem TS.trans {H H1 H2 : Hp} (a : TS H H1) (b : TS H1 H2) : TS H H2 := ⟨fun x y h => b.t x y (a.t x y h), fun x y z h n => b.z x y z (a.z x y z h n) n⟩
theorem TS.new {H : Hp} {p : Addr} {o : HO} (h : H p = none) : TS H (upd H p o) :=
  ⟨fun a u e => by rw [upd_ne (ne_of_none e h)]; exact e, fun a x u e _ => by rw [upd_ne (ne_of_none e h)]; exact e⟩
theorem TS.put {H : Hp} {p : Addr} {o u0 : HO} (h : H p = some u0) (h1 : ∀ xs, u0 ≠ .tup xs) (h2 : ∀ x u, u0 ≠ .frz x u) : TS H (upd H p o) :=
  ⟨fun a u e => by
    have ne : a ≠ p := fun z => by subst z; rw [h] at e; exact h1 u (Option.some.inj e)
    rw [upd_ne ne]; exact e, fun a x u e _ => by
    have ne : a ≠ p := fun z => by subst z; rw [h] at e; exact h2 x u (Option.some.inj e)
    rw [upd_ne ne]; exact e⟩
theorem TS.sq {K : Frag} {H H' : Hp} {a : Addr} {xs : List V} (t : TS H H') (h : SqT K H a xs) : SqT K H' a xs := by
  rcases h with (h | ⟨o, h⟩) | h
  · exact .inl (.inl (t.t _ _ h))
  · exact .inl (.inr ⟨o, t.z _ _ _ h fun _ z => nomatch z⟩)
  · exact .inr h

/-- a list that nobody changes: the script -/
def SqC (K : Frag) (H : Hp) (a : Addr) (xs : List V) : Prop := (∃ o, H a = some (.frz o (.lst xs))) ∨
    ∃ (o : Obj) (its : Array Value) (n : Nat), K.lookup a = some o ∧ o.cls = .type "list" ∧ o.dict = none ∧ o.data = .seq its n ∧ its.size ≤ sizeLine ∧ Vals xs its.toList
theorem SqC.sq {K : Frag} {H : Hp} {a : Addr} {xs : List V} (h : SqC K H a xs) : SqL K H a xs := h.elim (fun h => .inl (.inr h)) .inr
theorem TS.sqc {K : Frag} {H H' : Hp} {a : Addr} {xs : List V} (t : TS H H') (h : SqC K H a xs) : SqC K H' a xs := h.elim (fun ⟨o, h⟩ => .inl ⟨o, t.z _ _ _ h fun _ z => nomatch z⟩) .inr
mutual
inductive Rp (K : Frag) (H : Hp) : V → D → Prop
  | non : Rp K H .non .non
  | bl (b : Bool) : Rp K H (.bl b) (.bl b)
  | int (i : Int) : Rp K H (.int i) (.int i)
  | str (x : Str) : Rp K H (.str x) (.str x)
  | ref (a : Addr) : Rp K H (.ref a) (.ref a)
  | ty (n : String) : Rp K H (.ty n) (.ty n)
  | tup {a : Addr} {vs : List V} {ds : List D} : SqT K H a vs → Rps K H vs ds → Rp K H (.ref a) (.tup ds)
  | cl {a : Addr} {vs : List V} {ds : List D} : SqC K H a vs → Rps K H vs ds → Rp K H (.ref a) (.cl ds)
  | fz {a : Addr} {o : Obj} {vs : List V} {ds : List D} : H a = some (.frz o (.lst vs)) → Rps K H vs ds → Rp K H (.ref a) (.fz ds)
inductive Rps (K : Frag) (H : Hp) : List V → List D → Prop
  | nil : Rps K H [] []
  | cons {v : V} {vs : List V} {d : D} {ds : List D} : Rp K H v d → Rps K H vs ds → Rps K H (v :: vs) (d :: ds)
end
mutual
theorem Rp.mono {K : Frag} {H H' : Hp} (t : TS H H') : ∀ {v : V} {d : D}, Rp K H v d → Rp K H' v d
  | _, _, .non => .non
  | _, _, .bl b => .bl b
  | _, _, .int i => .int i
  | _, _, .str x => .str x
  | _, _, .ref a => .ref a
  | _, _, .ty n => .ty n
  | _, _, .tup h hs => .tup (t.sq h) (Rps.mono t hs)
  | _, _, .cl h hs => .cl (t.sqc h) (Rps.mono t hs)
  | _, _, .fz h hs => .fz (t.z _ _ _ h fun _ z => nomatch z) (Rps.mono t hs)
theorem Rps.mono {K : Frag} {H H' : Hp} (t : TS H H') : ∀ {vs : List V} {ds : List D}, Rps K H vs ds → Rps K H' vs ds
  | _, _, .nil => .nil
  | _, _, .cons h hs => .cons (Rp.mono t h) (Rps.mono t hs)
end
section
variable {K : Frag} {H H' : Hp}
theorem Rp.int_of {v : V} {i : Int} (h : Rp K H v (.int i)) : v = .int i := by cases h; rfl
theorem Rp.bl_of {v : V} {b : Bool} (h : Rp K H v (.bl b)) : v = .bl b := by cases h; rfl
theorem Rp.str_of {v : V} {x : Str} (h : Rp K H v (.str x)) : v = .str x := by cases h; rfl
theorem Rp.non_of {v : V} (h : Rp K H v .non) : v = .non := by cases h; rfl
theorem Rp.ty_of {v : V} {n : String} (h : Rp K H v (.ty n)) : v = .ty n := by cases h; rfl
theorem Rp.ref_of {v : V} {a : Addr} (h : Rp K H v (.ref a)) : v = .ref a := by cases h; rfl
theorem Rp.tup_of {v : V} {ds : List D} (h : Rp K H v (.tup ds)) : ∃ a vs, v = .ref a ∧ SqT K H a vs ∧ Rps K H vs ds := by cases h with | tup a b => exact ⟨_, _, rfl, a, b⟩
theorem Rp.cl_of {v : V} {ds : List D} (h : Rp K H v (.cl ds)) : ∃ a vs, v = .ref a ∧ SqC K H a vs ∧ Rps K H vs ds := by cases h with | cl a b => exact ⟨_, _, rfl, a, b⟩
theorem Rp.fz_of {v : V} {ds : List D} (h : Rp K H v (.fz ds)) : ∃ a o vs, v = .ref a ∧ H a = some (.frz o (.lst vs)) ∧ Rps K H vs ds := by cases h with | fz a b => exact ⟨_, _, _, rfl, a, b⟩
theorem Rps.length : ∀ {vs : List V} {ds : List D}, Rps K H vs ds → vs.length = ds.length
  | _, _, .nil => rfl
  | _, _, .cons _ t => by rw [List.length_cons, List.length_cons, Rps.length t]
theorem Rps.get : ∀ {vs : List V} {ds : List D} {i : Nat} {d : D}, Rps K H vs ds → ds[i]? = some d → ∃ v, vs[i]? = some v ∧ Rp K H v d
  | _, _, _, _, .nil, e => by simp at e
  | _, _, 0, _, .cons r _, e => by simp at e; subst e; exact ⟨_, rfl, r⟩
  | _, _, i + 1, d, .cons _ t, e => by
    obtain ⟨u, h1, h2⟩ := Rps.get (i := i) (d := d) t (by simpa using e)
    exact ⟨u, by simpa using h1, h2⟩
theorem Rps.getV : ∀ {vs : List V} {ds : List D} {i : Nat} {v : V}, Rps K H vs ds → vs[i]? = some v → ∃ d, ds[i]? = some d ∧ Rp K H v d
  | _, _, _, _, .nil, e => by simp at e
  | _, _, 0, _, .cons r _, e => by simp at e; subst e; exact ⟨_, rfl, r⟩
  | _, _, i + 1, d, .cons _ t, e => by
    obtain ⟨u, h1, h2⟩ := Rps.getV (i := i) (v := d) t (by simpa using e)
    exact ⟨u, by simpa using h1, h2⟩
theorem Rps.append : ∀ {xs ys : List V} {us ws : List D}, Rps K H xs us → Rps K H ys ws → Rps K H (xs ++ ys) (us ++ ws)
  | _, _, _, _, .nil, s => s
  | _, _, _, _, .cons r t, s => .cons r (Rps.append t s)
theorem Rps.one {v : V} {d : D} (h : Rp K H v d) : Rps K H [v] [d] := .cons h .nil
theorem Rps.take : ∀ {xs : List V} {us : List D} (n : Nat), Rps K H xs us → Rps K H (xs.take n) (us.take n)
  | _, _, 0, _ => .nil
  | _, _, _ + 1, .nil => .nil
  | _, _, n + 1, .cons r t => .cons r (Rps.take n t)
theorem Rps.drop : ∀ {xs : List V} {us : List D} (n : Nat), Rps K H xs us → Rps K H (xs.drop n) (us.drop n)
  | _, _, 0, r => r
  | _, _, _ + 1, .nil => .nil
  | _, _, n + 1, .cons _ t => Rps.drop n t
theorem Rps.dropLast {xs : List V} {us : List D} (h : Rps K H xs us) : Rps K H xs.dropLast us.dropLast := by
  rw [List.dropLast_eq_take, List.dropLast_eq_take, h.length]; exact h.take _
theorem Rps.ints : ∀ {vs : List V} {ns : List Int}, Rps K H vs (ns.map D.int) → vs = ns.map V.int
  | _, [], h => by cases h; rfl
  | _, n :: ns, h => by
    cases h with
    | cons a b => rw [a.int_of, Rps.ints b]; rfl
theorem Rps.strs : ∀ {vs : List V} {ns : List Str}, Rps K H vs (ns.map D.str) → vs = ns.map V.str
  | _, [], h => by cases h; rfl
  | _, n :: ns, h => by
    cases h with
    | cons a b => rw [a.str_of, Rps.strs b]; rfl
theorem Rps.atI {vs : List V} {ds : List D} {i : Int} {d : D} (h : Rps K H vs ds) (e : atI ds i = some d) : ∃ v, L2.atI vs i = some v ∧ Rp K H v d := by
  unfold L2.atI at e ⊢
  rw [h.length]
  cases q : ixN ds.length i with
  | none => rw [q] at e; cases e
  | some j =>
    rw [q] at e
    exact h.get e
end

/-! ### the abstract heap: lists, instances, dicts, by what they hold -/
/-- a dict whose keys are tuples, by its entries: the key, where it stands, the value -/
def DkO (P : Program) (w : World) (a : Addr) (xs : List (NestedKey × Addr × Value)) : HO := .ext fun h => (a == sysModules) = false ∧ ∃ o es ep, h.get? a = some o ∧ o.ExactDict ∧ o.data = .dict es ep ∧ es.toList = xs.map (entryOfKey (nestedKind P w)) ∧ (xs.map (·.1)).Nodup
mutual
def keyD : D → Option NestedKey
  | .int i => some (.num i)
  | .str x => some (.text x)
  | .tup ds => match keysD ds with
    | some ks => some (.tup ks)
    | none => none
  | _ => none
def keysD : List D → Option (List NestedKey)
  | [] => some []
  | d :: ds => match keyD d, keysD ds with
    | some k, some ks => some (k :: ks)
    | _, _ => none
end
inductive AO where
  | lst (ds : List D)
  | ins (C dx : Addr) (fs : List (Str × D))
  | dK (kvs : List (Key × D))
  | dD (P : Program) (w : World) (a : Addr) (kvs : List (NestedKey × D))
  | raw (u : HO)
  | dZ (o : Obj) (gs : List (Key × V)) (kvs : List (Key × D))
/-- an entry of such a dict -/
def EnD (K : Frag) (H : Hp) (x : NestedKey × Addr × Value) (q : NestedKey × D) : Prop := (∃ kd, Rp K H (.ref x.2.1) kd ∧ keyD kd = some x.1 ∧ x.1.depth ≤ 8) ∧ x.1 = q.1 ∧ ∃ v, RelV v x.2.2 ∧ Rp K H v q.2
def RelA (K : Frag) (H : Hp) : AO → HO → Prop
  | .lst ds, u => ∃ vs, u = .lst vs ∧ Rps K H vs ds
  | .ins C dx fs, u => ∃ gs, u = .ins C dx gs ∧ Paired (fun (p : Str × V) (q : Str × D) => p.1 = q.1 ∧ Rp K H p.2 q.2) gs fs
  | .dK kvs, u => ∃ gs, u = .dK gs ∧ Paired (fun (p : Key × V) (q : Key × D) => p.1 = q.1 ∧ Rp K H p.2 q.2) gs kvs
  | .dD P w a kvs, u => ∃ xs, u = DkO P w a xs ∧ Paired (EnD K H) xs kvs
  | .raw w, u => u = w
  | .dZ o gs kvs, u => u = .frz o (.dK gs) ∧ Paired (fun (p : Key × V) (q : Key × D) => p.1 = q.1 ∧ Rp K H p.2 q.2) gs kvs
theorem RelA.mono {K : Frag} {H H' : Hp} (t : TS H H') : ∀ {o : AO} {u : HO}, RelA K H o u → RelA K H' o u
  | .lst _, _, ⟨vs, e, h⟩ => ⟨vs, e, h.mono t⟩
  | .ins _ _ _, _, ⟨gs, e, h⟩ => ⟨gs, e, Paired.mapP h fun _ _ z => ⟨z.1, z.2.mono t⟩⟩
  | .dK _, _, ⟨gs, e, h⟩ => ⟨gs, e, Paired.mapP h fun _ _ z => ⟨z.1, z.2.mono t⟩⟩
  | .dD _ _ _ _, _, ⟨gs, e, h⟩ => ⟨gs, e, Paired.mapP h fun _ _ ⟨⟨kd, z1, z2⟩, z3, v, z4, z5⟩ => ⟨⟨kd, z1.mono t, z2⟩, z3, v, z4, z5.mono t⟩⟩
  | .raw _, _, e => e
  | .dZ _ _ _, _, ⟨e, h⟩ => ⟨e, Paired.mapP h fun _ _ z => ⟨z.1, z.2.mono t⟩⟩
abbrev AH := Addr → Option AO
def aupd (A : AH) (a : Addr) (o : AO) : AH := fun b => if b = a then some o else A b
theorem aupd_same {A : AH} {a : Addr} {o : AO} : aupd A a o a = some o := by unfold aupd; rw [if_pos rfl]
theorem aupd_ne {A : AH} {a b : Addr} {o : AO} (h : b ≠ a) : aupd A a o b = A b := by unfold aupd; rw [if_neg h]
theorem aupd_aupd {A : AH} {a : Addr} {o u : AO} : aupd (aupd A a o) a u = aupd A a u := by funext b; unfold aupd; split <;> rfl
theorem ane {A : AH} {a b : Addr} {o : AO} (h : A a = some o) (h' : A b = none) : a ≠ b := by intro e; subst e; rw [h] at h'; cases h'
/-- what stood stands -/
def Ext (A A' : AH) : Prop := ∀ a o, A a = some o → A' a = some o
theorem Ext.refl (A : AH) : Ext A A := fun _ _ h => h
theorem Ext.trans {A A1 A2 : AH} (a : Ext A A1) (b : Ext A1 A2) : Ext A A2 := fun x o h => b x o (a x o h)
theorem Ext.new {A : AH} {p : Addr} {o : AO} (h : A p = none) : Ext A (aupd A p o) := fun a u e => by rw [aupd_ne (ane e h)]; exact e
theorem Ext.upd {A A' : AH} (e : Ext A A') (p : Addr) (o : AO) : Ext (aupd A p o) (aupd A' p o) := fun a u q => by
  unfold aupd at q ⊢
  split
  · rename_i h; rw [if_pos h] at q; exact q
  · rename_i h; rw [if_neg h] at q; exact e a u q
theorem Ext.none {A A' : AH} {p : Addr} (e : Ext A A') (h : A' p = none) : A p = none := by
  cases q : A p with
  | none => rfl
  | some o => rw [e p o q] at h; cases h

def Rel (K : Frag) (A : AH) (H : Hp) : Prop := ∀ a o, A a = some o → ∃ u, H a = some u ∧ RelA K H o u
section
variable {K : Frag} {A A' : AH} {H H' : Hp}
theorem Rel.none (r : Rel K A H) {p : Addr} (h : H p = Option.none) : A p = Option.none := by
  cases q : A p with
  | none => rfl
  | some o => obtain ⟨u, e, _⟩ := r p o q; rw [h] at e; cases e
theorem Rel.sub (r : Rel K A' H) (e : Ext A A') : Rel K A H := fun a o h => r a o (e a o h)
theorem Rel.new (r : Rel K A H) {p : Addr} {o : AO} {u : HO} (h : H p = Option.none) (ra : RelA K (upd H p u) o u) : Rel K (aupd A p o) (upd H p u) := fun a o' q => by
  by_cases e : a = p
  · subst e
    rw [aupd_same] at q
    cases q
    exact ⟨u, upd_same, ra⟩
  · rw [aupd_ne e] at q
    obtain ⟨v, e1, e2⟩ := r a o' q
    exact ⟨v, by rw [upd_ne e]; exact e1, e2.mono (TS.new h)⟩
theorem Rel.newT (r : Rel K A H) {p : Addr} {vs : List V} (h : H p = Option.none) : Rel K A (upd H p (.tup vs)) := fun a o q => by
  obtain ⟨v, e1, e2⟩ := r a o q
  exact ⟨v, by rw [upd_ne (ne_of_none e1 h)]; exact e1, e2.mono (TS.new h)⟩
theorem Rel.newAny (r : Rel K A H) {p : Addr} {u : HO} (h : H p = Option.none) : Rel K A (upd H p u) := fun a o q => by
  obtain ⟨v, e1, e2⟩ := r a o q
  exact ⟨v, by rw [upd_ne (ne_of_none e1 h)]; exact e1, e2.mono (TS.new h)⟩
theorem Rel.put (r : Rel K A H) {p : Addr} {o : AO} {u u0 : HO} (h : H p = some u0) (h1 : ∀ xs, u0 ≠ .tup xs) (h2 : ∀ x u, u0 ≠ .frz x u) (ra : RelA K (upd H p u) o u) : Rel K (aupd A p o) (upd H p u) := fun a o' q => by
  by_cases e : a = p
  · subst e
    rw [aupd_same] at q
    cases q
    exact ⟨u, upd_same, ra⟩
  · rw [aupd_ne e] at q
    obtain ⟨v, e1, e2⟩ := r a o' q
    exact ⟨v, by rw [upd_ne e]; exact e1, e2.mono (TS.put h h1 h2)⟩
theorem Rel.lst (r : Rel K A H) {p : Addr} {ds : List D} (h : A p = some (.lst ds)) : ∃ vs, H p = some (.lst vs) ∧ Rps K H vs ds := by
  obtain ⟨u, e, vs, rfl, q⟩ := r p _ h
  exact ⟨vs, e, q⟩
theorem Rel.putL (r : Rel K A H) {p : Addr} {ds : List D} {vs vs' : List V} (h : H p = some (.lst vs)) (q : Rps K H vs' ds) : TS H (upd H p (.lst vs')) ∧ Rel K (aupd A p (.lst ds)) (upd H p (.lst vs')) := by
  have t : TS H (upd H p (.lst vs')) := TS.put h (fun _ z => nomatch z) (fun _ _ z => nomatch z)
  exact ⟨t, r.put h (fun _ z => nomatch z) (fun _ _ z => nomatch z) ⟨vs', rfl, q.mono t⟩⟩
theorem Rel.newL (r : Rel K A H) {p : Addr} {ds : List D} {vs : List V} (h : H p = Option.none) (q : Rps K H vs ds) : TS H (upd H p (.lst vs)) ∧ Rel K (aupd A p (.lst ds)) (upd H p (.lst vs)) :=
  ⟨TS.new h, r.new h ⟨vs, rfl, q.mono (TS.new h)⟩⟩
end
/-- d is a list of ds, to be read -/
def IsL (A : AH) (d : D) (ds : List D) : Prop := (∃ p, d = .ref p ∧ A p = some (.lst ds)) ∨ d = .cl ds ∨ d = .fz ds
theorem IsL.sq {K : Frag} {A : AH} {H : Hp} {d : D} {ds : List D} {v : V} (l : IsL A d ds) (rv : Rp K H v d) (r : Rel K A H) : ∃ a vs, v = .ref a ∧ SqL K H a vs ∧ Rps K H vs ds := by
  rcases l with ⟨p, rfl, l⟩ | rfl | rfl
  · obtain ⟨vs, e, q⟩ := r.lst l
    exact ⟨p, vs, rv.ref_of, .inl (.inl e), q⟩
  · obtain ⟨a, vs, rfl, h1, h2⟩ := rv.cl_of
    exact ⟨a, vs, rfl, h1.sq, h2⟩
  · obtain ⟨a, o, vs, rfl, h1, h2⟩ := rv.fz_of
    exact ⟨a, vs, rfl, .inl (.inr ⟨o, h1⟩), h2⟩
theorem IsL.ext {A A' : AH} {d : D} {ds : List D} (l : IsL A d ds) (e : Ext A A') : IsL A' d ds := l.elim (fun ⟨p, h, q⟩ => .inl ⟨p, h, e _ _ q⟩) .inr
theorem IsL.of {A : AH} {p : Addr} {ds : List D} (h : A p = some (.lst ds)) : IsL A (.ref p) ds := .inl ⟨p, rfl, h⟩
theorem IsL.cl {A : AH} {ds : List D} : IsL A (.cl ds) ds := .inr (.inl rfl)
theorem IsL.fz {A : AH} {ds : List D} : IsL A (.fz ds) ds := .inr (.inr rfl)

/-! ### the state -/
abbrev Ro := List (Option D)
structure Sr (K : Frag) (ρ : Ro) (A : AH) (σ : L2.St) (H : Hp) : Prop where
  len : ρ.length = σ.length
  val : ∀ (i : Nat) (d : D), ρ[i]? = some (some d) → ∃ v, σ[i]? = some (some v) ∧ Rp K H v d
  hp : Rel K A H
section
variable {K : Frag} {ρ : Ro} {A A' : AH} {σ : L2.St} {H H' : Hp}
theorem Sr.mono (s : Sr K ρ A σ H) (t : TS H H') (r : Rel K A' H') : Sr K ρ A' σ H' :=
  ⟨s.len, fun i d e => let ⟨v, a, b⟩ := s.val i d e; ⟨v, a, b.mono t⟩, r⟩
theorem Sr.set (s : Sr K ρ A σ H) {v : V} {d : D} (i : Nat) (r : Rp K H v d) : Sr K (ρ.set i (some d)) A (σ.set i (some v)) H := by
  refine ⟨by simp [s.len], fun j d' e => ?_, s.hp⟩
  by_cases h : j = i
  · subst h
    rw [List.getElem?_set] at e
    rw [if_pos rfl] at e
    split at e
    · rename_i hl
      cases e
      exact ⟨v, by rw [List.getElem?_set_self (by rw [← s.len]; exact hl)], r⟩
    · cases e
  · rw [List.getElem?_set_ne (Ne.symm h)] at e
    obtain ⟨w, a, b⟩ := s.val j d' e
    exact ⟨w, by rw [List.getElem?_set_ne (Ne.symm h)]; exact a, b⟩
theorem Sr.unset (s : Sr K ρ A σ H) (i : Nat) : Sr K (ρ.set i none) A (σ.set i none) H := by
  refine ⟨by simp [s.len], fun j d' e => ?_, s.hp⟩
  by_cases h : j = i
  · subst h
    rw [List.getElem?_set] at e
    rw [if_pos rfl] at e
    split at e
    · cases e
    · cases e
  · rw [List.getElem?_set_ne (Ne.symm h)] at e
    obtain ⟨w, a, b⟩ := s.val j d' e
    exact ⟨w, by rw [List.getElem?_set_ne (Ne.symm h)]; exact a, b⟩
end
end C7
namespace C7
open PySem PySem.Spec PyProof.Rows L2

/-! ### the widest readings -/
section
variable {X : Cx}
structure TMp (X : Cx) (e : Expr) (σ : L2.St) (H : Hp) (Q : VK) : Prop where
  go : ∀ (pins : List (Addr × Obj)) (s : Shared), Inv X pins σ H s → wpAny (model X.prog X.w) X.A (eval e X.env) (EP X pins σ Q) X.xe s
def TM (X : Cx) (e : Expr) : TE := fun σ H Q => TMp X e σ H Q
theorem pe_tm (e : Expr) : PE X e (TM X e) := ⟨fun pins s _ _ _ I h => h.go pins s I⟩
theorem tm_of {e : Expr} {t : TE} (h : PE X e t) {σ : L2.St} {H : Hp} {Q : VK} (q : t σ H Q) : TM X e σ H Q := ⟨fun pins s I => h.run pins s σ H Q I q⟩
structure TMTp (X : Cx) (e : Expr) (σ : L2.St) (H : Hp) (Q : Bool → Hp → Prop) : Prop where
  go : ∀ (pins : List (Addr × Obj)) (s : Shared), Inv X pins σ H s → wpAny (model X.prog X.w) X.A (isTrue e X.env (eval e X.env)) (TP X pins σ Q) X.xe s
def TMT (X : Cx) (e : Expr) : TT := fun σ H Q => TMTp X e σ H Q
theorem pt_tm (e : Expr) : PT X e (TMT X e) := ⟨fun pins s _ _ _ I h => h.go pins s I⟩
theorem tmt_of {e : Expr} {t : TT} (h : PT X e t) {σ : L2.St} {H : Hp} {Q : Bool → Hp → Prop} (q : t σ H Q) : TMT X e σ H Q := ⟨fun pins s I => h.run pins s σ H Q I q⟩
structure TMWp (X : Cx) (e : Expr) (σ : L2.St) (H : Hp) (Q : Bool → Hp → Prop) : Prop where
  go : ∀ (whole : Sem Value) (pins : List (Addr × Obj)) (s : Shared), Inv X pins σ H s → wpAny (model X.prog X.w) X.A (isTrue e X.env whole) (TP X pins σ Q) X.xe s
def TMW (X : Cx) (e : Expr) : TT := fun σ H Q => TMWp X e σ H Q
theorem pw_tm (e : Expr) : PW X e (TMW X e) := ⟨fun whole pins s _ _ _ I h => h.go whole pins s I⟩
theorem tmw_of {e : Expr} {t : TT} (h : PW X e t) {σ : L2.St} {H : Hp} {Q : Bool → Hp → Prop} (q : t σ H Q) : TMW X e σ H Q := ⟨fun whole pins s I => h.run whole pins s σ H Q I q⟩
structure TMAp (X : Cx) (es : List Expr) (σ : L2.St) (H : Hp) (Q : List V → Hp → Prop) : Prop where
  go : ∀ (pos : Pos) (pins : List (Addr × Obj)) (s : Shared), Inv X pins σ H s → wpAny (model X.prog X.w) X.A (spliced (backTo pos (starEach es X.env))) (AP X pins σ Q) X.xe s
def TMA (X : Cx) (es : List Expr) : TA := fun σ H Q => TMAp X es σ H Q
theorem pa_tm (es : List Expr) : PA X es (TMA X es) := ⟨fun pos pins s _ _ _ I h => h.go pos pins s I⟩
theorem tma_of {es : List Expr} {t : TA} (h : PA X es t) {σ : L2.St} {H : Hp} {Q : List V → Hp → Prop} (q : t σ H Q) : TMA X es σ H Q := ⟨fun pos pins s I => h.run pos pins s σ H Q I q⟩
structure TM1p (X : Cx) (st : Stmt) (D : Ends) (σ : L2.St) (H : Hp) : Prop where
  go : ∀ (pins : List (Addr × Obj)) (s : Shared), Inv X pins σ H s → wpAny (model X.prog X.w) X.A (exec st X.env) (SP X pins D) X.xe s
def TM1 (X : Cx) (st : Stmt) : L2.TS := fun D σ H => TM1p X st D σ H
theorem ps_tm (st : Stmt) : PS X st (TM1 X st) := ⟨fun pins s _ _ _ I h => h.go pins s I⟩
theorem tm1_of {st : Stmt} {t : L2.TS} (h : PS X st t) {σ : L2.St} {H : Hp} {D : Ends} (q : t D σ H) : TM1 X st D σ H := ⟨fun pins s I => h.run pins s σ H D I q⟩
structure TMsp (X : Cx) (sts : List Stmt) (D : Ends) (σ : L2.St) (H : Hp) : Prop where
  go : ∀ (pins : List (Addr × Obj)) (s : Shared), Inv X pins σ H s → wpAny (model X.prog X.w) X.A (execs sts X.env) (SP X pins D) X.xe s
def TMs (X : Cx) (sts : List Stmt) : L2.TS := fun D σ H => TMsp X sts D σ H
theorem pss_tm (sts : List Stmt) : PSs X sts (TMs X sts) := ⟨fun pins s _ _ _ I h => h.go pins s I⟩
theorem tms_of {sts : List Stmt} {t : L2.TS} (h : PSs X sts t) {σ : L2.St} {H : Hp} {D : Ends} (q : t D σ H) : TMs X sts D σ H := ⟨fun pins s I => h.run pins s σ H D I q⟩
structure TMGp (X : Cx) (tg : Expr) (v : V) (σ : L2.St) (H : Hp) (Q : L2.St → Hp → Prop) : Prop where
  go : ∀ (pins : List (Addr × Obj)) (s : Shared) (u : Value), Inv X pins σ H s → RelV v u → wpAny (model X.prog X.w) X.A (assign tg X.env u) (fun _ s' => ∃ σ' H', Inv X pins σ' H' s' ∧ Q σ' H') X.xe s
def TMG (X : Cx) (tg : Expr) : TG := fun v σ H Q => TMGp X tg v σ H Q
theorem pg_tm (tg : Expr) : PG X tg (TMG X tg) := ⟨fun pins s _ _ _ u _ I r h => h.go pins s u I r⟩
theorem tmg_of {tg : Expr} {t : TG} (h : PG X tg t) {v : V} {σ : L2.St} {H : Hp} {Q : L2.St → Hp → Prop} (q : t v σ H Q) : TMG X tg v σ H Q := ⟨fun pins s u I r => h.run pins s σ H v u Q I r q⟩
structure TMGsp (X : Cx) (ts : List Expr) (vs : List V) (σ : L2.St) (H : Hp) (Q : L2.St → Hp → Prop) : Prop where
  go : ∀ (pins : List (Addr × Obj)) (s : Shared) (us : List Value), Inv X pins σ H s → Vals vs us → wpAny (model X.prog X.w) X.A (assignInOrder ((assignEach ts X.env).map (·.2)) us) (fun _ s' => ∃ σ' H', Inv X pins σ' H' s' ∧ Q σ' H') X.xe s
def TMGs (X : Cx) (ts : List Expr) : TGs := fun vs σ H Q => TMGsp X ts vs σ H Q
theorem pgs_tm (ts : List Expr) : PGs X ts (TMGs X ts) := ⟨fun pins s _ _ _ us _ I r h => h.go pins s us I r⟩
theorem tmgs_of {ts : List Expr} {t : TGs} (h : PGs X ts t) {vs : List V} {σ : L2.St} {H : Hp} {Q : L2.St → Hp → Prop} (q : t vs σ H Q) : TMGs X ts vs σ H Q := ⟨fun pins s us I r => h.run pins s σ H vs us Q I r q⟩
structure TMIp (X : Cx) (tg iter : Expr) (σ : L2.St) (H : Hp) (R : It → Hp → Prop) : Prop where
  go : ∀ (pins : List (Addr × Obj)) (s : Shared), Inv X pins σ H s → wpAny (model X.prog X.w) X.A (eval iter X.env) (fun v s1 => wpAny (model X.prog X.w) X.A (pyIter v) (PIE X pins σ tg R) X.xe s1) X.xe s
def TMI (X : Cx) (tg iter : Expr) : TI := fun σ H R => TMIp X tg iter σ H R
theorem pi_tm (tg iter : Expr) : PI X tg iter (TMI X tg iter) := ⟨fun pins s _ _ _ I h => h.go pins s I⟩
theorem tmi_of {tg iter : Expr} {t : TI} (h : PI X tg iter t) {σ : L2.St} {H : Hp} {R : It → Hp → Prop} (q : t σ H R) : TMI X tg iter σ H R := ⟨fun pins s I => h.run pins s σ H R I q⟩
end

/-! ### the judgements -/
abbrev AK := D → AH → Prop
/-- e gives some d, leaving some A', of which k holds -/
def AE (X : Cx) (e : Expr) (ρ : Ro) (A : AH) (k : AK) : Prop := ∀ (σ : L2.St) (H : Hp), Sr X.K ρ A σ H → ∀ Q : VK, (∀ v H' d A', TS H H' → Rp X.K H' v d → Rel X.K A' H' → k d A' → Q v H') → TM X e σ H Q
/-- e gives d, and nothing that is known changes -/
def AV (X : Cx) (e : Expr) (ρ : Ro) (A : AH) (d : D) : Prop := ∀ (σ : L2.St) (H : Hp), Sr X.K ρ A σ H → ∀ Q : VK, (∀ v H', TS H H' → Rp X.K H' v d → Rel X.K A H' → Q v H') → TM X e σ H Q
def AEs (X : Cx) (es : List Expr) (ρ : Ro) (A : AH) (k : List D → AH → Prop) : Prop := ∀ (σ : L2.St) (H : Hp), Sr X.K ρ A σ H → ∀ Q : List V → Hp → Prop, (∀ vs H' ds A', TS H H' → Rps X.K H' vs ds → Rel X.K A' H' → k ds A' → Q vs H') → TMA X es σ H Q
def AVs (X : Cx) (es : List Expr) (ρ : Ro) (A : AH) (ds : List D) : Prop := ∀ (σ : L2.St) (H : Hp), Sr X.K ρ A σ H → ∀ Q : List V → Hp → Prop, (∀ vs H', TS H H' → Rps X.K H' vs ds → Rel X.K A H' → Q vs H') → TMA X es σ H Q
/-- a test -/
def AET (X : Cx) (e : Expr) (ρ : Ro) (A : AH) (k : Bool → AH → Prop) : Prop := ∀ (σ : L2.St) (H : Hp), Sr X.K ρ A σ H → ∀ Q : Bool → Hp → Prop, (∀ b H' A', TS H H' → Rel X.K A' H' → k b A' → Q b H') → TMT X e σ H Q
def AT (X : Cx) (e : Expr) (ρ : Ro) (A : AH) (b : Bool) : Prop := ∀ (σ : L2.St) (H : Hp), Sr X.K ρ A σ H → ∀ Q : Bool → Hp → Prop, (∀ H', TS H H' → Rel X.K A H' → Q b H') → TMT X e σ H Q
def AW (X : Cx) (e : Expr) (ρ : Ro) (A : AH) (b : Bool) : Prop := ∀ (σ : L2.St) (H : Hp), Sr X.K ρ A σ H → ∀ Q : Bool → Hp → Prop, (∀ H', TS H H' → Rel X.K A H' → Q b H') → TMW X e σ H Q
/-- a target: the slots is may change -/
def AG (X : Cx) (tg : Expr) (is : List Nat) (ρ : Ro) (d : D) (ρ' : Ro) : Prop := ∀ (v : V) (σ : L2.St) (H : Hp) (A : AH), Sr X.K ρ A σ H → Rp X.K H v d → ∀ Q : L2.St → Hp → Prop,
  (∀ σ', σ'.length = σ.length → (∀ j : Nat, j ∉ is → σ'[j]? = σ[j]?) → Sr X.K ρ' A σ' H → Q σ' H) → TMG X tg v σ H Q
def AGs (X : Cx) (ts : List Expr) (is : List Nat) (ρ : Ro) (ds : List D) (ρ' : Ro) : Prop := ∀ (vs : List V) (σ : L2.St) (H : Hp) (A : AH), Sr X.K ρ A σ H → Rps X.K H vs ds → ∀ Q : L2.St → Hp → Prop,
  (∀ σ', σ'.length = σ.length → (∀ j : Nat, j ∉ is → σ'[j]? = σ[j]?) → Sr X.K ρ' A σ' H → Q σ' H) → TMGs X ts vs σ H Q
/-- what a walk yields, while G holds -/
structure Wk (K : Frag) (H0 : Hp) (J : It) (G : AH → Prop) (n : Nat) (f : Nat → D) : Prop where
  go : ∀ (i : Nat) (H : Hp) (A : AH), i < n → TS H0 H → Rel K A H → G A → J.go i H
  yl : ∀ (i : Nat) (H : Hp) (A : AH) (x : V) (H' : Hp), i < n → TS H0 H → Rel K A H → G A → J.yld i H x H' → TS H H' ∧ Rel K A H' ∧ Rp K H' x (f i)
  st : ∀ (H : Hp) (A : AH), TS H0 H → Rel K A H → G A → J.stop n H
def AI (X : Cx) (tg iter : Expr) (ρ : Ro) (A : AH) (k : AH → (AH → Prop) → Nat → (Nat → D) → Prop) : Prop := ∀ (σ : L2.St) (H : Hp), Sr X.K ρ A σ H → ∀ R : It → Hp → Prop,
  (∀ J H' A' G n f, TS H H' → Rel X.K A' H' → Wk X.K H' J G n f → k A' G n f → R J H') → TMI X tg iter σ H R
structure AEnds where
  nx : Ro → AH → Prop
  rt : D → AH → Prop
  bk : Ro → AH → Prop := fun _ _ => False
  ct : Ro → AH → Prop := fun _ _ => False
  xc : Value → Ro → AH → Prop := fun _ _ _ => False
structure EOk (K : Frag) (W : WX) (H : Hp) (E : AEnds) (D : Ends) : Prop where
  nx : ∀ ρ' A' σ' H', TS H H' → Sr K ρ' A' σ' H' → E.nx ρ' A' → D.nx σ' H'
  rt : ∀ d A' v H', TS H H' → Rel K A' H' → Rp K H' v d → E.rt d A' → D.rt v H'
  bk : ∀ ρ' A' σ' H', TS H H' → Sr K ρ' A' σ' H' → E.bk ρ' A' → D.bk σ' H'
  ct : ∀ ρ' A' σ' H', TS H H' → Sr K ρ' A' σ' H' → E.ct ρ' A' → D.ct σ' H'
  xc : ∀ c ρ' A' σ' H', TS H H' → Sr K ρ' A' σ' H' → E.xc c ρ' A' → W c none σ' H'
theorem EOk.mono {K : Frag} {W : WX} {H H' : Hp} {E : AEnds} {D : Ends} (e : EOk K W H E D) (t : TS H H') : EOk K W H' E D :=
  ⟨fun _ _ _ _ a => e.nx _ _ _ _ (t.trans a), fun _ _ _ _ a => e.rt _ _ _ _ (t.trans a), fun _ _ _ _ a => e.bk _ _ _ _ (t.trans a), fun _ _ _ _ a => e.ct _ _ _ _ (t.trans a), fun _ _ _ _ _ a => e.xc _ _ _ _ _ (t.trans a)⟩
def AS (X : Cx) (W : WX) (sts : List Stmt) (ρ : Ro) (A : AH) (E : AEnds) : Prop := ∀ (σ : L2.St) (H : Hp), Sr X.K ρ A σ H → ∀ D : Ends, EOk X.K W H E D → TMs X sts D σ H
def A1 (X : Cx) (W : WX) (st : Stmt) (ρ : Ro) (A : AH) (E : AEnds) : Prop := ∀ (σ : L2.St) (H : Hp), Sr X.K ρ A σ H → ∀ D : Ends, EOk X.K W H E D → TM1 X st D σ H

section
variable {X : Cx} {W : WX} {ρ : Ro} {A : AH} {e a b c : Expr} {es : List Expr} {pos : Pos} {d x y : D} {k : AK}
theorem AV.ae (h : AV X e ρ A d) (q : k d A) : AE X e ρ A k := fun σ H s Q hq => h σ H s Q fun v H' t r l => hq v H' d A t r l q
theorem AE.av (h : AE X e ρ A fun d' A' => d' = d ∧ Ext A A') : AV X e ρ A d := fun σ H s Q hq => h σ H s Q fun v H' d' A' t r l q => hq v H' t (by rw [← q.1]; exact r) (l.sub q.2)
theorem AE.mono {k' : AK} (h : AE X e ρ A k) (m : ∀ d A', k d A' → k' d A') : AE X e ρ A k' := fun σ H s Q hq => h σ H s Q fun v H' d A' t r l q => hq v H' d A' t r l (m d A' q)
theorem AE.weak (h : AE X e ρ A fun d A' => ∃ A'', Ext A'' A' ∧ k d A'') : AE X e ρ A k := fun σ H s Q hq => h σ H s Q fun v H' d A' t r l ⟨A'', x, q⟩ => hq v H' d A'' t r (l.sub x) q
theorem AVs.aes {ds : List D} {k : List D → AH → Prop} (h : AVs X es ρ A ds) (q : k ds A) : AEs X es ρ A k := fun σ H s Q hq => h σ H s Q fun v H' t r l => hq v H' ds A t r l q
theorem AT.aet {b : Bool} {k : Bool → AH → Prop} (h : AT X e ρ A b) (q : k b A) : AET X e ρ A k := fun σ H s Q hq => h σ H s Q fun H' t l => hq b H' A t l q
theorem AET.at' {b : Bool} (h : AET X e ρ A fun b' A' => b' = b ∧ Ext A A') : AT X e ρ A b := fun σ H s Q hq => h σ H s Q fun b' H' A' t l q => by
  rw [q.1]; exact hq H' t (l.sub q.2)
theorem AV.is {d' : D} (h : AV X e ρ A d) (q : d = d') : AV X e ρ A d' := q ▸ h
theorem AT.is {b b' : Bool} (h : AT X e ρ A b) (q : b = b') : AT X e ρ A b' := q ▸ h

/-! ### names, constants -/
theorem av_var {i : Nat} {n : Str} (hN : X.N[i]? = some n) (hv : Vis X.env.scope n) (h : ρ[i]? = some (some d)) (hd : (n == ("__debug__" : Str)) = false := by decide) (hcd : (n == ("__classdict__" : Str)) = false := by decide) : AV X (.Name n pos) ρ A d :=
  fun σ H s Q q => by
    obtain ⟨v, e, r⟩ := s.val i d h
    exact tm_of (pe_var hN hv hd hcd) ⟨v, e, q v H (TS.refl H) r s.hp⟩
theorem av_int {i : Int} {j : Nat} : AV X (.Constant (.int i) j pos) ρ A (.int i) := fun σ H s Q q => tm_of pe_int (q _ H (TS.refl H) (.int i) s.hp)
theorem av_bl {i : Bool} {j : Nat} : AV X (.Constant (.bool i) j pos) ρ A (.bl i) := fun σ H s Q q => tm_of pe_bl (q _ H (TS.refl H) (.bl i) s.hp)
theorem av_non {j : Nat} : AV X (.Constant .none j pos) ρ A .non := fun σ H s Q q => tm_of pe_non (q _ H (TS.refl H) .non s.hp)
theorem av_str {i : Str} {j : Nat} : AV X (.Constant (.str i) j pos) ρ A (.str i) := fun σ H s Q q => tm_of pe_str (q _ H (TS.refl H) (.str i) s.hp)
/-- a module's name -/
theorem av_glob {n : Str} {u : Value} {v : V} (hg : Gl X n) (hm : X.mg n = some u) (r : RelV v u) (h : ∀ H, Rp X.K H v d) (hd : (n == ("__debug__" : Str)) = false := by decide) : AV X (.Name n pos) ρ A d :=
  fun σ H s Q q => tm_of (pe_glob hg hm r hd) (q v H (TS.refl H) (h H) s.hp)
theorem av_bltn {n : Str} {u : Value} {v : V} (hg : Gl X n) (hm : X.mg n = none) (hv : bootBuiltins n = some u) (r : RelV v u) (h : ∀ H, Rp X.K H v d) (hn : n ≠ "__name__" := by decide) (hd : (n == ("__debug__" : Str)) = false := by decide) : AV X (.Name n pos) ρ A d :=
  fun σ H s Q q => tm_of (pe_bltn hg hm hv r hn hd) (q v H (TS.refl H) (h H) s.hp)

/-! ### operators -/
theorem ae_op {op : Operator} {r : R2} (ho : OpR X (binaryOp op) r)
    (h : AE X a ρ A fun x A1 => AE X b ρ A1 fun y A2 => ∀ v u H, Rp X.K H v x → Rp X.K H u y → Rel X.K A2 H → ∀ Q : VK, (∀ z H' d A', TS H H' → Rp X.K H' z d → Rel X.K A' H' → k d A' → Q z H') → r v u H Q) : AE X (.BinOp a op b pos) ρ A k :=
  fun σ H s Q q => tm_of (pe_op ho (pe_tm a) (pe_tm b)) (h σ H s _ fun v H1 x A1 t1 r1 l1 h1 => h1 σ H1 (s.mono t1 l1) _ fun u H2 y A2 t2 r2 l2 h2 =>
    h2 v u H2 (r1.mono t2) r2 l2 Q fun z H' d A' t3 r3 l3 q3 => q z H' d A' ((t1.trans t2).trans t3) r3 l3 q3)
theorem av_op {op : Operator} {r : R2} (ho : OpR X (binaryOp op) r) (ha : AV X a ρ A x) (hb : AV X b ρ A y)
    (h : ∀ v u H, Rp X.K H v x → Rp X.K H u y → Rel X.K A H → ∀ Q : VK, (∀ z H', TS H H' → Rp X.K H' z d → Rel X.K A H' → Q z H') → r v u H Q) : AV X (.BinOp a op b pos) ρ A d :=
  fun σ H s Q q => tm_of (pe_op ho (pe_tm a) (pe_tm b)) (ha σ H s _ fun v H1 t1 r1 l1 => hb σ H1 (s.mono t1 l1) _ fun u H2 t2 r2 l2 =>
    h v u H2 (r1.mono t2) r2 l2 Q fun z H' t3 r3 l3 => q z H' ((t1.trans t2).trans t3) r3 l3)
theorem av_opI0 {op : Operator} {g : Int → Int → Int} {i j : Int} (ho : OpR X (binaryOp op) (rI0 fun i j => .int (g i j))) (ha : AV X a ρ A (.int i)) (hb : AV X b ρ A (.int j)) : AV X (.BinOp a op b pos) ρ A (.int (g i j)) :=
  av_op ho ha hb fun _ _ H r1 r2 l Q q => by
    rw [r1.int_of, r2.int_of]
    exact ⟨i, j, rfl, rfl, q _ H (TS.refl H) (.int _) l⟩
theorem av_opI {op : Operator} {C : Int → Int → Prop} {g : Int → Int → Int} {i j : Int} (ho : OpR X (binaryOp op) (rI C fun i j => .int (g i j))) (ha : AV X a ρ A (.int i)) (hb : AV X b ρ A (.int j)) (hc : C i j) : AV X (.BinOp a op b pos) ρ A (.int (g i j)) :=
  av_op ho ha hb fun _ _ H r1 r2 l Q q => by
    rw [r1.int_of, r2.int_of]
    exact ⟨i, j, rfl, rfl, hc, q _ H (TS.refl H) (.int _) l⟩
theorem av_add {i j : Int} (ha : AV X a ρ A (.int i)) (hb : AV X b ρ A (.int j)) : AV X (.BinOp a .Add b pos) ρ A (.int (i + j)) := av_opI0 (g := fun i j => i + j) op_add ha hb
theorem av_sub {i j : Int} (ha : AV X a ρ A (.int i)) (hb : AV X b ρ A (.int j)) : AV X (.BinOp a .Sub b pos) ρ A (.int (i - j)) := av_opI0 (g := fun i j => i - j) op_sub ha hb
theorem av_mul {i j : Int} (ha : AV X a ρ A (.int i)) (hb : AV X b ρ A (.int j)) (hc : CMulX i j) : AV X (.BinOp a .Mult b pos) ρ A (.int (i * j)) := av_opI (g := fun i j => i * j) op_mulX ha hb hc
theorem av_div {i j : Int} (ha : AV X a ρ A (.int i)) (hb : AV X b ρ A (.int j)) (hc : CDivW i j) : AV X (.BinOp a .FloorDiv b pos) ρ A (.int (i / j)) := av_opI (g := fun i j => i / j) op_fdivW ha hb hc
theorem av_mod {i j : Int} (ha : AV X a ρ A (.int i)) (hb : AV X b ρ A (.int j)) (hc : 0 < j) : AV X (.BinOp a .Mod b pos) ρ A (.int (i % j)) := av_opI (C := fun _ j => 0 < j) (g := fun i j => i % j) op_mod ha hb hc
theorem av_pow {i j : Int} (ha : AV X a ρ A (.int i)) (hb : AV X b ρ A (.int j)) (hc : CPow i j) : AV X (.BinOp a .Pow b pos) ρ A (.int (i ^ j.toNat)) := av_opI (g := fun i j => i ^ j.toNat) op_pow ha hb hc
theorem av_neg {i : Int} (ha : AV X a ρ A (.int i)) : AV X (.UnaryOp .USub a pos) ρ A (.int (-i)) := fun σ H s Q q => tm_of (pe_un un_neg (pe_tm a)) (ha σ H s _ fun v H1 t1 r1 l1 => by
  rw [r1.int_of]
  exact ⟨i, rfl, q _ H1 t1 (.int _) l1⟩)

/-! ### comparisons -/
theorem av_cmp {op : CmpOp} {r : R2} (ho : OpR X (compareOp op) r) (hm : behindInMarks op b = false) (ha : AV X a ρ A x) (hb : AV X b ρ A y) (h : ∀ v u H, Rp X.K H v x → Rp X.K H u y → Rel X.K A H → ∀ Q : VK, (∀ z H', TS H H' → Rp X.K H' z d → Rel X.K A H' → Q z H') → r v u H Q) :
    AV X (.Compare a [op] [b] pos) ρ A d :=
  fun σ H s Q q => tm_of (pe_cmpR ho (pe_tm a) (pe_tm b) hm) (ha σ H s _ fun v H1 t1 r1 l1 => hb σ H1 (s.mono t1 l1) _ fun u H2 t2 r2 l2 =>
    h v u H2 (r1.mono t2) r2 l2 Q fun z H' t3 r3 l3 => q z H' ((t1.trans t2).trans t3) r3 l3)
theorem at_cmp {op : CmpOp} {r : R2} {bb : Bool} (ho : OpR X (compareOp op) r) (hm : behindInMarks op b = false) (ha : AV X a ρ A x) (hb : AV X b ρ A y) (h : ∀ v u H, Rp X.K H v x → Rp X.K H u y → Rel X.K A H → ∀ Q : VK, (∀ H', TS H H' → Rel X.K A H' → Q (.bl bb) H') → r v u H Q) :
    AT X (.Compare a [op] [b] pos) ρ A bb :=
  fun σ H s Q q => tmt_of (pt_cmpR ho (pe_tm a) (pe_tm b) hm) (ha σ H s _ fun v H1 t1 r1 l1 => hb σ H1 (s.mono t1 l1) _ fun u H2 t2 r2 l2 =>
    h v u H2 (r1.mono t2) r2 l2 _ fun H' t3 l3 => ⟨bb, rfl, q H' ((t1.trans t2).trans t3) l3⟩)
theorem aet_cmp {op : CmpOp} {r : R2} {kt : Bool → AH → Prop} (ho : OpR X (compareOp op) r) (hm : behindInMarks op b = false)
    (h : AE X a ρ A fun x A1 => AE X b ρ A1 fun y A2 => ∀ v u H, Rp X.K H v x → Rp X.K H u y → Rel X.K A2 H → ∀ Q : VK, (∀ bb H' A', TS H H' → Rel X.K A' H' → kt bb A' → Q (.bl bb) H') → r v u H Q) : AET X (.Compare a [op] [b] pos) ρ A kt :=
  fun σ H s Q q => tmt_of (pt_cmpR ho (pe_tm a) (pe_tm b) hm) (h σ H s _ fun v H1 x A1 t1 r1 l1 h1 => h1 σ H1 (s.mono t1 l1) _ fun u H2 y A2 t2 r2 l2 h2 =>
    h2 v u H2 (r1.mono t2) r2 l2 _ fun bb H' A' t3 l3 q3 => ⟨bb, rfl, q bb H' A' ((t1.trans t2).trans t3) l3 q3⟩)
section
variable {i j : Int}
theorem cmpI {r : R2} {g : Int → Int → Bool} (e : r = rI0 fun i j => .bl (g i j)) : ∀ v u H, Rp X.K H v (.int i) → Rp X.K H u (.int j) → Rel X.K A H → ∀ Q : VK, (∀ H', TS H H' → Rel X.K A H' → Q (.bl (g i j)) H') → r v u H Q := fun v u H r1 r2 l Q q => by
  rw [e, r1.int_of, r2.int_of]
  exact ⟨i, j, rfl, rfl, q H (TS.refl H) l⟩
theorem at_lt (ha : AV X a ρ A (.int i)) (hb : AV X b ρ A (.int j)) : AT X (.Compare a [.Lt] [b] pos) ρ A (decide (i < j)) := at_cmp op_lt (nomark _) ha hb (cmpI (g := fun i j => decide (i < j)) rfl)
theorem at_gt (ha : AV X a ρ A (.int i)) (hb : AV X b ρ A (.int j)) : AT X (.Compare a [.Gt] [b] pos) ρ A (decide (j < i)) := at_cmp op_gt (nomark _) ha hb (cmpI (g := fun i j => decide (j < i)) rfl)
theorem dec_V {i j : Int} : decide (V.int i = V.int j) = decide (i = j) := by
  by_cases h : i = j
  · subst h; simp
  · rw [decide_eq_false h, decide_eq_false fun e => h (V.int.inj e)]
theorem cmpEqI : ∀ v u H, Rp X.K H v (.int i) → Rp X.K H u (.int j) → Rel X.K A H → ∀ Q : VK, (∀ H', TS H H' → Rel X.K A H' → Q (.bl (decide (i = j))) H') → rEq v u H Q := fun v u H r1 r2 l Q q => by
  rw [r1.int_of, r2.int_of]
  refine ⟨rfl, ?_⟩
  rw [dec_V]
  exact q H (TS.refl H) l
theorem cmpNeI : ∀ v u H, Rp X.K H v (.int i) → Rp X.K H u (.int j) → Rel X.K A H → ∀ Q : VK, (∀ H', TS H H' → Rel X.K A H' → Q (.bl (!decide (i = j))) H') → rNe v u H Q := fun v u H r1 r2 l Q q => by
  rw [r1.int_of, r2.int_of]
  refine ⟨rfl, ?_⟩
  rw [dec_V]
  exact q H (TS.refl H) l
theorem at_eq (ha : AV X a ρ A (.int i)) (hb : AV X b ρ A (.int j)) : AT X (.Compare a [.Eq] [b] pos) ρ A (decide (i = j)) := at_cmp op_eq (nomark _) ha hb cmpEqI
theorem at_ne (ha : AV X a ρ A (.int i)) (hb : AV X b ρ A (.int j)) : AT X (.Compare a [.NotEq] [b] pos) ρ A (!decide (i = j)) := at_cmp op_ne (nomark _) ha hb cmpNeI
theorem blz {bb : Bool} {Q : VK} {H : Hp} (q : ∀ z H', TS H H' → Rp X.K H' z (.bl bb) → Rel X.K A H' → Q z H') : ∀ H', TS H H' → Rel X.K A H' → Q (.bl bb) H' := fun H' t l => q _ H' t (.bl bb) l
theorem av_eq (ha : AV X a ρ A (.int i)) (hb : AV X b ρ A (.int j)) : AV X (.Compare a [.Eq] [b] pos) ρ A (.bl (decide (i = j))) := av_cmp op_eq (nomark _) ha hb fun v u H r1 r2 l Q q => cmpEqI v u H r1 r2 l Q (blz q)
end

/-! ### tests -/
theorem at_val {bb : Bool} (h : AV X e ρ A (.bl bb)) (he : ∀ whole, isTrue e X.env whole = (do let v ← whole; standAt e.pos; holding [v] (truthy v)) := by intro _; rfl) : AT X e ρ A bb :=
  fun σ H s Q q => tmt_of (pt_val (pe_tm e) he) (h σ H s _ fun v H1 t1 r1 l1 => ⟨bb, r1.bl_of, q H1 t1 l1⟩)
theorem at_not {bb : Bool} (h : AT X e ρ A bb) : AT X (.UnaryOp .Not e pos) ρ A (!bb) := fun σ H s Q q => tmt_of (pt_not (pt_tm e)) (h σ H s _ fun H1 t1 l1 => q H1 t1 l1)
theorem AW.at {bb : Bool} (h : AW X e ρ A bb) : AT X e ρ A bb := fun σ H s Q q => tmt_of (pw_tm e).pt (h σ H s Q q)
variable {b1 b2 : Bool} {rest : List Expr} {kt : Bool → AH → Prop}
theorem aw_and1 (h : AT X a ρ A b1) : AW X (.BoolOp .And [a] pos) ρ A b1 := fun σ H s Q q => tmw_of (pw_and1 (pt_tm a)) (h σ H s Q q)
theorem aw_or1 (h : AT X a ρ A b1) : AW X (.BoolOp .Or [a] pos) ρ A b1 := fun σ H s Q q => tmw_of (pw_or1 (pt_tm a)) (h σ H s Q q)
theorem aw_and (h : AT X a ρ A b1) (h2 : b1 = true → AW X (.BoolOp .And (b :: rest) pos) ρ A b2) : AW X (.BoolOp .And (a :: b :: rest) pos) ρ A (b1 && b2) := fun σ H s Q q =>
  tmw_of (pw_and (pt_tm a) (pw_tm _)) (h σ H s _ fun H1 t1 l1 => by
    cases b1 with
    | true => exact iteT (h2 rfl σ H1 (s.mono t1 l1) Q fun H2 t2 l2 => q H2 (t1.trans t2) l2)
    | false => exact iteF (q H1 t1 l1))
theorem aw_or (h : AT X a ρ A b1) (h2 : b1 = false → AW X (.BoolOp .Or (b :: rest) pos) ρ A b2) : AW X (.BoolOp .Or (a :: b :: rest) pos) ρ A (b1 || b2) := fun σ H s Q q =>
  tmw_of (pw_or (pt_tm a) (pw_tm _)) (h σ H s _ fun H1 t1 l1 => by
    cases b1 with
    | false => exact iteF (h2 rfl σ H1 (s.mono t1 l1) Q fun H2 t2 l2 => q H2 (t1.trans t2) l2)
    | true => exact iteT (q H1 t1 l1))
/-! .. as values -/

/-! ### argument lists, displays -/
variable {ds : List D}
theorem avs_nil : AVs X [] ρ A [] := fun σ H s Q q => tma_of pa_nil (q [] H (TS.refl H) .nil s.hp)
theorem avs_cons (h : AV X e ρ A d) (hr : AVs X es ρ A ds) (hs : starEach (e :: es) X.env = (false, eval e X.env) :: starEach es X.env := by rfl) : AVs X (e :: es) ρ A (d :: ds) := fun σ H s Q q =>
  tma_of (pa_cons (pe_tm e) (pa_tm es) hs) (h σ H s _ fun v H1 t1 r1 l1 => hr σ H1 (s.mono t1 l1) _ fun vs H2 t2 r2 l2 => q (v :: vs) H2 (t1.trans t2) (.cons (r1.mono t2) r2) l2)
theorem aes_nil {kk : List D → AH → Prop} (h : kk [] A) : AEs X [] ρ A kk := fun σ H s Q q => tma_of pa_nil (q [] H [] A (TS.refl H) .nil s.hp h)
theorem aes_cons {kk : List D → AH → Prop} (h : AE X e ρ A fun d A1 => AEs X es ρ A1 fun ds A2 => kk (d :: ds) A2) (hs : starEach (e :: es) X.env = (false, eval e X.env) :: starEach es X.env := by rfl) : AEs X (e :: es) ρ A kk := fun σ H s Q q =>
  tma_of (pa_cons (pe_tm e) (pa_tm es) hs) (h σ H s _ fun v H1 d A1 t1 r1 l1 h1 => h1 σ H1 (s.mono t1 l1) _ fun vs H2 ds A2 t2 r2 l2 k2 => q (v :: vs) H2 (d :: ds) A2 (t1.trans t2) (.cons (r1.mono t2) r2) l2 k2)
theorem tup_ok {vs : List V} {H : Hp} {p : Addr} {K : Frag} (h : Rps K H vs ds) (hp : H p = none) : Rp K (upd H p (.tup vs)) (.ref p) (.tup ds) := .tup (SqT.of upd_same) (h.mono (TS.new hp))
theorem av_tup {x1 : Nat} (h : AVs X es ρ A ds) (hl : ds.length ≤ sizeLine := by first | decide | exact Nat.le_of_ble_eq_true rfl) : AV X (.Tuple es x1 pos) ρ A (.tup ds) := fun σ H s Q q =>
  tm_of (pe_tup (pa_tm es)) (h σ H s _ fun vs H1 t1 r1 l1 => ⟨by rw [r1.length]; exact hl, fun p hp => q (.ref p) _ (t1.trans (TS.new hp)) (tup_ok r1 hp) (l1.newT hp)⟩)
theorem ae_lst (h : AEs X es ρ A fun ds A1 => ds.length ≤ sizeLine ∧ ∀ p, A1 p = none → k (.ref p) (aupd A1 p (.lst ds))) : AE X (.List es pos) ρ A k := fun σ H s Q q =>
  tm_of (pe_lst (pa_tm es)) (h σ H s _ fun vs H1 ds A1 t1 r1 l1 h1 => ⟨by rw [r1.length]; exact h1.1, fun p hp => q (.ref p) _ _ _ (t1.trans (TS.new hp)) (.ref p) (l1.newL hp r1).2 (h1.2 p (l1.none hp))⟩)
/-- e gives a new list of ds -/
def AL (X : Cx) (e : Expr) (ρ : Ro) (A : AH) (ds : List D) : Prop := ∀ k : AK, (∀ p, A p = none → k (.ref p) (aupd A p (.lst ds))) → AE X e ρ A k
theorem AL.ae (h : AL X e ρ A ds) (q : ∀ p, A p = none → k (.ref p) (aupd A p (.lst ds))) : AE X e ρ A k := h k q
theorem al_lst (h : AVs X es ρ A ds) (hl : ds.length ≤ sizeLine := by first | decide | exact Nat.le_of_ble_eq_true rfl) : AL X (.List es pos) ρ A ds := fun k q => ae_lst (h.aes ⟨hl, q⟩)

/-! ### subscripts -/
theorem av_ixT {i : Int} (ha : AV X a ρ A (.tup ds)) (hb : AV X b ρ A (.int i)) (h : atI ds i = some d) (hs : PlainIx b := by intro _ _; rfl) : AV X (.Subscript a b pos) ρ A d := fun σ H s Q q =>
  tm_of (pe_ix ix_tup (pe_tm a) (pe_tm b) hs) (ha σ H s _ fun v H1 t1 r1 l1 => hb σ H1 (s.mono t1 l1) _ fun u H2 t2 r2 l2 => by
    obtain ⟨p, vs, rfl, h1, h2⟩ := (r1.mono t2).tup_of
    rw [r2.int_of]
    obtain ⟨w, e1, e2⟩ := h2.atI h
    exact ⟨p, vs, i, w, rfl, rfl, h1, e1, q w H2 (t1.trans t2) e2 l2⟩)
theorem av_ixL {x : D} {i : Int} (ha : AV X a ρ A x) (hb : AV X b ρ A (.int i)) (hl : IsL A x ds) (h : atI ds i = some d) (hs : PlainIx b := by intro _ _; rfl) : AV X (.Subscript a b pos) ρ A d := fun σ H s Q q =>
  tm_of (pe_ix ix_list (pe_tm a) (pe_tm b) hs) (ha σ H s _ fun v H1 t1 r1 l1 => hb σ H1 (s.mono t1 l1) _ fun u H2 t2 r2 l2 => by
    rw [r2.int_of]
    obtain ⟨p, vs, rfl, h1, h2⟩ := hl.sq (r1.mono t2) l2
    obtain ⟨w, e1, e2⟩ := h2.atI h
    exact ⟨p, vs, i, w, rfl, rfl, h1, e1, q w H2 (t1.trans t2) e2 l2⟩)

/-! ### built-ins by name -/
variable {n : Str} {p0 : Pos}
theorem ae_callB {id : String} {r : List V → Hp → VK → Prop} (hc : CallR X (.builtin id) r) (hg : Gl X n) (hm : X.mg n = none) (hv : bootBuiltins n = some (.builtin id))
    (h : AEs X (e :: es) ρ A fun ds A1 => ∀ vs H, Rps X.K H vs ds → Rel X.K A1 H → ∀ Q : VK, (∀ z H' d A', TS H H' → Rp X.K H' z d → Rel X.K A' H' → k d A' → Q z H') → r vs H Q)
    (hn : n ≠ "__name__" := by decide) (hdb : (n == ("__debug__" : Str)) = false := by decide) (he : starEach (e :: es) X.env = (false, eval e X.env) :: starEach es X.env := by rfl) (hpl : (backTo pos (starEach es X.env)).any (·.1) = false := by rfl) :
    AE X (.Call (.Name n p0) (e :: es) [] pos) ρ A k := fun σ H s Q q =>
  tm_of (pe_callB hc hg hm hv (pa_tm (e :: es)) hn hdb he hpl) (h σ H s _ fun vs H1 ds A1 t1 r1 l1 h1 => h1 vs H1 r1 l1 Q fun z H' d A' t2 r2 l2 k2 => q z H' d A' (t1.trans t2) r2 l2 k2)
theorem av_callB {id : String} {r : List V → Hp → VK → Prop} (hc : CallR X (.builtin id) r) (hg : Gl X n) (hm : X.mg n = none) (hv : bootBuiltins n = some (.builtin id))
    (ha : AVs X (e :: es) ρ A ds) (h : ∀ vs H, Rps X.K H vs ds → Rel X.K A H → ∀ Q : VK, (∀ z H', TS H H' → Rp X.K H' z d → Rel X.K A H' → Q z H') → r vs H Q)
    (hn : n ≠ "__name__" := by decide) (hdb : (n == ("__debug__" : Str)) = false := by decide) (he : starEach (e :: es) X.env = (false, eval e X.env) :: starEach es X.env := by rfl) (hpl : (backTo pos (starEach es X.env)).any (·.1) = false := by rfl) :
    AV X (.Call (.Name n p0) (e :: es) [] pos) ρ A d := fun σ H s Q q =>
  tm_of (pe_callB hc hg hm hv (pa_tm (e :: es)) hn hdb he hpl) (ha σ H s _ fun vs H1 t1 r1 l1 => h vs H1 r1 l1 Q fun z H' t2 r2 l2 => q z H' (t1.trans t2) r2 l2)
theorem ae_callTy {id : String} {r : List V → Hp → VK → Prop} (hc : CallR X (.type id) r) (hg : Gl X n) (hm : X.mg n = none) (hv : bootBuiltins n = some (.type id))
    (h : AEs X (e :: es) ρ A fun ds A1 => ∀ vs H, Rps X.K H vs ds → Rel X.K A1 H → ∀ Q : VK, (∀ z H' d A', TS H H' → Rp X.K H' z d → Rel X.K A' H' → k d A' → Q z H') → r vs H Q)
    (hn : n ≠ "__name__" := by decide) (hdb : (n == ("__debug__" : Str)) = false := by decide) (he : starEach (e :: es) X.env = (false, eval e X.env) :: starEach es X.env := by rfl) (hpl : (backTo pos (starEach es X.env)).any (·.1) = false := by rfl) :
    AE X (.Call (.Name n p0) (e :: es) [] pos) ρ A k := fun σ H s Q q =>
  tm_of (pe_callTy hc hg hm hv (pa_tm (e :: es)) hn hdb he hpl) (h σ H s _ fun vs H1 ds A1 t1 r1 l1 h1 => h1 vs H1 r1 l1 Q fun z H' d A' t2 r2 l2 k2 => q z H' d A' (t1.trans t2) r2 l2 k2)
end
end C7
namespace C7
open PySem PySem.Spec PyProof.Rows L2

section
variable {X : Cx} {W : WX} {ρ ρ' : Ro} {A : AH} {E : AEnds} {e a b c : Expr} {es : List Expr} {pos : Pos} {d x y : D} {k : AK} {st : Stmt} {rest body : List Stmt} {ds : List D}

/-! ### blocks -/
theorem as_nil (h : E.nx ρ A) : AS X W [] ρ A E := fun σ H s D q => tms_of pss_nil (q.nx ρ A σ H (TS.refl H) s h)
theorem EOk.seq {K : Frag} {H : Hp} {D : Ends} {t : L2.TS} {nx' : Ro → AH → Prop} (q : EOk K W H E D) (h : ∀ ρ' A' σ' H', TS H H' → Sr K ρ' A' σ' H' → nx' ρ' A' → t D σ' H') : EOk K W H { E with nx := nx' } { D with nx := t D } :=
  ⟨h, q.rt, q.bk, q.ct, q.xc⟩
theorem as_cons (h : A1 X W st ρ A { E with nx := fun ρ' A' => AS X W rest ρ' A' E }) : AS X W (st :: rest) ρ A E := fun σ H s D q =>
  tms_of (pss_cons (ps_tm st) (pss_tm rest)) (h σ H s { D with nx := TMs X rest D } (q.seq fun ρ' A' σ' H' t s' h' => h' σ' H' s' D (q.mono t)))
theorem AS.mono {E' : AEnds} (h : AS X W rest ρ A E) (h1 : ∀ ρ A, E.nx ρ A → E'.nx ρ A) (h2 : ∀ d A, E.rt d A → E'.rt d A) (h3 : ∀ ρ A, E.bk ρ A → E'.bk ρ A) (h4 : ∀ ρ A, E.ct ρ A → E'.ct ρ A) (h5 : ∀ c ρ A, E.xc c ρ A → E'.xc c ρ A) : AS X W rest ρ A E' := fun σ H s D q =>
  h σ H s D ⟨fun _ _ _ _ t s x => q.nx _ _ _ _ t s (h1 _ _ x), fun _ _ _ _ t s r x => q.rt _ _ _ _ t s r (h2 _ _ x), fun _ _ _ _ t s x => q.bk _ _ _ _ t s (h3 _ _ x), fun _ _ _ _ t s x => q.ct _ _ _ _ t s (h4 _ _ x), fun _ _ _ _ _ t s x => q.xc _ _ _ _ _ t s (h5 _ _ _ x)⟩

/-! ### small statements -/
theorem a1_ret (h : AE X e ρ A E.rt) : A1 X W (.Return (some e) pos) ρ A E := fun σ H s D q => tm1_of (ps_ret (pe_tm e)) (h σ H s _ fun v H' d A' t r l kd => q.rt d A' v H' t l r kd)
theorem as_ret (h : AE X e ρ A E.rt) : AS X W (.Return (some e) pos :: rest) ρ A E := as_cons (a1_ret h)
theorem as_retv (h : AV X e ρ A d) (q : E.rt d A) : AS X W (.Return (some e) pos :: rest) ρ A E := as_cons (a1_ret (h.ae q))
theorem a1_expr (h : AE X e ρ A fun _ A' => E.nx ρ A') (hs : swapsWith e none pos.line X.env = pure false := by rfl) : A1 X W (.Expr e pos) ρ A E := fun σ H s D q =>
  tm1_of (ps_expr (pe_tm e) hs) (h σ H s _ fun v H' d A' t r l kd => q.nx ρ A' σ H' t (s.mono t l) kd)
theorem a1_if {th el : List Stmt} (h : AET X c ρ A fun bb A' => (bb = true → AS X W th ρ A' E) ∧ (bb = false → AS X W el ρ A' E)) : A1 X W (.If c th el pos) ρ A E := fun σ H s D q =>
  tm1_of (ps_if (pt_tm c) (pss_tm th) (pss_tm el)) (h σ H s _ fun bb H' A' t l kd => by
    cases bb with
    | true => exact iteT (kd.1 rfl σ H' (s.mono t l) D (q.mono t))
    | false => exact iteF (kd.2 rfl σ H' (s.mono t l) D (q.mono t)))
theorem as_if {th el : List Stmt} {bb : Bool} (h : AT X c ρ A bb) (h1 : bb = true → AS X W th ρ A { E with nx := fun ρ' A' => AS X W rest ρ' A' E }) (h2 : bb = false → AS X W el ρ A { E with nx := fun ρ' A' => AS X W rest ρ' A' E }) : AS X W (.If c th el pos :: rest) ρ A E :=
  as_cons (a1_if (h.aet ⟨h1, h2⟩))
/-- an if, the rest shown once, from Mid -/
theorem as_ifm {th el : List Stmt} {bb : Bool} (Mid : Ro → AH → Prop) (h : AT X c ρ A bb) (h1 : bb = true → AS X W th ρ A { E with nx := Mid }) (h2 : bb = false → AS X W el ρ A { E with nx := Mid }) (hr : ∀ ρ' A', Mid ρ' A' → AS X W rest ρ' A' E) : AS X W (.If c th el pos :: rest) ρ A E :=
  as_if h (fun e => (h1 e).mono hr (fun _ _ x => x) (fun _ _ x => x) (fun _ _ x => x) (fun _ _ _ x => x)) (fun e => (h2 e).mono hr (fun _ _ x => x) (fun _ _ x => x) (fun _ _ x => x) (fun _ _ _ x => x))
/-- the rest of a block behind an if whose branch falls through -/
theorem as_end (h : AS X W rest ρ A E) : AS X W [] ρ A { E with nx := fun ρ' A' => AS X W rest ρ' A' E } := as_nil h

/-! ### targets -/
theorem ag_name {i : Nat} {n : Str} (hN : X.N.Nodup) (hi : X.N[i]? = some n) (hx : Loc X.env.scope n) (hf : X.fn n = true ∨ X.env.scope.names.lookup n = some .local := by first | exact .inl rfl | exact .inr rfl | assumption) : AG X (.Name n pos) [i] ρ d (ρ.set i (some d)) := fun v σ H A s r Q q =>
  tmg_of (pg_name hN hi hx hf) (q _ (by simp) (fun j hj => by rw [List.getElem?_set_ne (fun z => hj (by simp [z]))]) (s.set i r))
theorem ags_nil : AGs X [] [] ρ [] ρ := fun vs σ H A s r Q q => tmgs_of pgs_nil (by cases r; exact ⟨rfl, q σ rfl (fun _ _ => rfl) s⟩)
theorem ags_cons {is js : List Nat} {ρ1 : Ro} (h : AG X e is ρ d ρ1) (hr : AGs X es js ρ1 ds ρ') (hs : (assignEach (e :: es) X.env).map (·.2) = assign e X.env :: (assignEach es X.env).map (·.2) := by rfl) : AGs X (e :: es) (is ++ js) ρ (d :: ds) ρ' := fun vs σ H A s r Q q => by
  cases r with
  | cons r1 r2 =>
    exact tmgs_of (pgs_cons (pg_tm e) (pgs_tm es) hs) ⟨_, _, rfl, h _ σ H A s r1 _ fun σ1 hl hj s1 => hr _ σ1 H A s1 r2 Q fun σ2 hl2 hj2 s2 =>
      q σ2 (hl2.trans hl) (fun j hm => (hj2 j fun z => hm (List.mem_append_right _ z)).trans (hj j fun z => hm (List.mem_append_left _ z))) s2⟩
theorem ag_tup {is : List Nat} {kk : Nat} (hc : X.calm = true) (h : AGs X es is ρ ds ρ') (hn : (assignEach es X.env).length = ds.length := by rfl) (hst : (assignEach es X.env).findIdx? (·.1) = none := by rfl) : AG X (.Tuple es kk pos) is ρ (.tup ds) ρ' := fun v σ H A s r Q q => by
  obtain ⟨p, vs, rfl, h1, h2⟩ := r.tup_of
  exact tmg_of (pg_tup hc (pgs_tm es) hn hst) ⟨p, vs, rfl, h1, h2.length, h vs σ H A s h2 Q q⟩

/-! ### assignments -/
theorem a1_asg {tg : Expr} {is : List Nat} (h : AE X e ρ A fun d A' => ∃ ρ', AG X tg is ρ d ρ' ∧ E.nx ρ' A') (hs : swapsWithSole [tg] e pos.line X.env = pure false := by rfl) (hw : swappedStores [tg] e X.env = pure none := by rfl)
    (h1 : (assignEach [tg] X.env).map (·.2) = [assign tg X.env] := by rfl) : A1 X W (.Assign [tg] e pos) ρ A E := fun σ H s D q =>
  tm1_of (ps_asg (pe_tm e) (pg_tm tg) hs hw h1) (h σ H s _ fun v H' d A' t r l ⟨ρ', g, kd⟩ => g v σ H' A' (s.mono t l) r _ fun σ' _ _ s' => q.nx ρ' A' σ' H' t s' kd)
theorem a1_set {i : Nat} {n : Str} {pos' : Pos} (hN : X.N.Nodup) (hi : X.N[i]? = some n) (hx : Loc X.env.scope n) (h : AE X e ρ A fun d A' => E.nx (ρ.set i (some d)) A') (hs : swapsWith e (some (.Name n pos')) pos.line X.env = pure false := by rfl)
    (hf : X.fn n = true ∨ X.env.scope.names.lookup n = some .local := by first | exact .inl rfl | exact .inr rfl | assumption) : A1 X W (.Assign [.Name n pos'] e pos) ρ A E := fun σ H s D q =>
  tm1_of (ps_set (i := i) hN hi hx (pe_tm e) hs hf) (h σ H s _ fun v H' d A' t r l kd => q.nx _ A' _ H' t ((s.mono t l).set i r) kd)
theorem as_set {i : Nat} {n : Str} {pos' : Pos} (hN : X.N.Nodup) (hi : X.N[i]? = some n) (hx : Loc X.env.scope n) (h : AE X e ρ A fun d A' => AS X W rest (ρ.set i (some d)) A' E) (hs : swapsWith e (some (.Name n pos')) pos.line X.env = pure false := by rfl)
    (hf : X.fn n = true ∨ X.env.scope.names.lookup n = some .local := by first | exact .inl rfl | exact .inr rfl | assumption) : AS X W (.Assign [.Name n pos'] e pos :: rest) ρ A E := as_cons (a1_set hN hi hx h hs hf)

/-! ### loops -/
theorem a1_while (hp : PassesOwn (model X.prog X.w) X.A X.env X.xe) (Pv : Ro → AH → Prop) (μ : Ro → AH → Nat) (h0 : Pv ρ A)
    (hs : ∀ ρ A, Pv ρ A → AET X c ρ A fun bb A1 => (bb = true → AS X W body ρ A1 { E with nx := fun ρ' A' => Pv ρ' A' ∧ μ ρ' A' < μ ρ A, ct := fun ρ' A' => Pv ρ' A' ∧ μ ρ' A' < μ ρ A, bk := E.nx }) ∧ (bb = false → E.nx ρ A1)) : A1 X W (.While c body [] pos) ρ A E := fun σ H s D q =>
  tm1_of (ps_while hp (pt_tm c) (pss_tm body)) (by
    refine ⟨fun m σ' H' => ∃ ρ' A', TS H H' ∧ Sr X.K ρ' A' σ' H' ∧ Pv ρ' A' ∧ m = μ ρ' A', ⟨_, ρ, A, TS.refl H, s, h0, rfl⟩, ?_⟩
    rintro m σ1 H1 ⟨ρ1, A1, t1, s1, p1, rfl⟩
    refine hs ρ1 A1 p1 σ1 H1 s1 _ fun bb H2 A2 t2 l2 kd => ?_
    cases bb with
    | true =>
      refine iteT ⟨fun σ' H' => ∃ ρ' A', TS H H' ∧ Sr X.K ρ' A' σ' H' ∧ Pv ρ' A' ∧ μ ρ' A' < μ ρ1 A1, ?_, ?_⟩
      · rintro σ' H' ⟨ρ', A', t', s', p', lt⟩
        exact ⟨_, lt, ρ', A', t', s', p', rfl⟩
      · have t12 := t1.trans t2
        refine kd.1 rfl σ1 H2 (s1.mono t2 l2) _ ⟨fun ρ' A' σ' H' t' s' p' => ⟨ρ', A', t12.trans t', s', p'.1, p'.2⟩, fun _ _ _ _ t' => q.rt _ _ _ _ (t12.trans t'), fun _ _ _ _ t' => q.nx _ _ _ _ (t12.trans t'), fun ρ' A' σ' H' t' s' p' => ⟨ρ', A', t12.trans t', s', p'.1, p'.2⟩, fun _ _ _ _ _ t' => q.xc _ _ _ _ _ (t12.trans t')⟩
    | false => exact iteF (q.nx ρ1 A2 σ1 H2 (t1.trans t2) (s1.mono t2 l2) (kd.2 rfl)))
/-- for: Pv holds ahead of turn i -/
theorem a1_for {tg iter : Expr} (hp : PassesOwn (model X.prog X.w) X.A X.env X.xe) (hc : X.calm = true)
    (hi : AI X tg iter ρ A fun A1 G n f => ∃ Pv : Nat → Ro → AH → Prop, Pv 0 ρ A1 ∧ (∀ i ρ' A', i ≤ n → Pv i ρ' A' → G A') ∧
      (∀ i ρ' A', i < n → Pv i ρ' A' → ∃ is ρ2, AG X tg is ρ' (f i) ρ2 ∧ AS X W body ρ2 A' { E with nx := Pv (i + 1), ct := Pv (i + 1), bk := E.nx }) ∧ ∀ ρ' A', Pv n ρ' A' → E.nx ρ' A')
    (hs : ∀ x, foldedSetIterable iter X.env x = pure x := by intro _; rfl) : A1 X W (.For tg iter body [] pos) ρ A E := fun σ H s D q =>
  tm1_of (ps_for hp hc (pi_tm tg iter) (pg_tm tg) (pss_tm body) hs) (hi σ H s _ fun J H1 A1 G n f t1 l1 wk ⟨Pv, h0, hG, hb, hd⟩ => by
    refine ⟨fun i m σ' H' => ∃ ρ' A', TS H1 H' ∧ Sr X.K ρ' A' σ' H' ∧ m = n - i ∧ i ≤ n ∧ Pv i ρ' A', ⟨n, ρ, A1, TS.refl _, s.mono t1 l1, by simp, Nat.zero_le _, h0⟩, ?_⟩
    rintro i m σ2 H2 ⟨ρ2, A2, t2, s2, rfl, hle, p2⟩
    by_cases hlt : i < n
    · refine .inr ⟨wk.go i H2 A2 hlt t2 s2.hp (hG i ρ2 A2 hle p2), fun σ' H' => ∃ ρ' A', TS H1 H' ∧ Sr X.K ρ' A' σ' H' ∧ Pv (i + 1) ρ' A', ?_, ?_⟩
      · rintro σ' H' ⟨ρ', A', t', s', p'⟩
        exact ⟨n - (i + 1), by omega, ρ', A', t', s', rfl, hlt, p'⟩
      · intro x H3 y3
        obtain ⟨t3, l3, r3⟩ := wk.yl i H2 A2 x H3 hlt t2 s2.hp (hG i ρ2 A2 hle p2) y3
        obtain ⟨is, ρ4, g4, b4⟩ := hb i ρ2 A2 hlt p2
        refine g4 x σ2 H3 A2 (s2.mono t3 l3) r3 _ fun σ4 _ _ s4 => ?_
        have t23 := t2.trans t3
        have t123 := t1.trans t23
        exact b4 σ4 H3 s4 _ ⟨fun ρ' A' σ' H' t' s' p' => ⟨ρ', A', t23.trans t', s', p'⟩, fun _ _ _ _ t' => q.rt _ _ _ _ (t123.trans t'), fun _ _ _ _ t' => q.nx _ _ _ _ (t123.trans t'), fun ρ' A' σ' H' t' s' p' => ⟨ρ', A', t23.trans t', s', p'⟩, fun _ _ _ _ _ t' => q.xc _ _ _ _ _ (t123.trans t')⟩
    · have e : i = n := by omega
      subst e
      exact .inl ⟨wk.st H2 A2 t2 s2.hp (hG _ ρ2 A2 hle p2), q.nx ρ2 A2 σ2 H2 (t1.trans t2) s2 (hd ρ2 A2 p2)⟩)

/-! ### what is walked -/
variable {tg : Expr} {kI : AH → (AH → Prop) → Nat → (Nat → D) → Prop} {p0 : Pos}
theorem wk_range (K : Frag) (H0 : Hp) (lo : Int) (n : Nat) : Wk K H0 (Itr lo n) (fun _ => True) n (fun i => .int (lo + i)) where
  go := fun i H A h _ _ _ => h
  yl := fun i H A x H' h _ r _ y => by
    obtain ⟨rfl, rfl⟩ := y
    exact ⟨TS.refl _, r, .int _⟩
  st := fun H A _ _ _ => Nat.le_refl n
theorem ai_range1 (hg : Gl X "range") (hm : X.mg "range" = none) (h : AE X a ρ A fun d A1 => ∃ j : Int, d = .int j ∧ -(2 ^ 62) ≤ j ∧ j < 2 ^ 62 ∧ kI A1 (fun _ => True) j.toNat (fun i => .int (0 + i))) (hs : starEach [a] X.env = [(false, eval a X.env)] := by rfl) :
    AI X tg (.Call (.Name "range" p0) [a] [] pos) ρ A kI := fun σ H s R q =>
  tmi_of (pi_range1 hg hm (pa_cons (pe_tm a) pa_nil hs) hs) (h σ H s _ fun v H1 d A1 t1 r1 l1 ⟨j, e, h1, h2, k1⟩ => ⟨j, by rw [e] at r1; rw [r1.int_of], h1, h2, q _ H1 A1 _ _ _ t1 l1 (wk_range X.K H1 0 j.toNat) k1⟩)
theorem wk_list {K : Frag} {H0 : Hp} {p : Addr} {x0 : D} {ds : List D} (r0 : Rp K H0 (.ref p) x0) : Wk K H0 (Itl K p) (fun A => IsL A x0 ds) ds.length (fun i => ds.getD i .non) where
  go := fun i H A h t r g => by
    obtain ⟨p', vs, ep, h1, h2⟩ := g.sq (r0.mono t) r
    cases ep
    have hi : i < vs.length := by rw [h2.length]; exact h
    exact ⟨vs, vs[i], h1, List.getElem?_eq_getElem hi⟩
  yl := fun i H A x H' h t r g y => by
    obtain ⟨rfl, y⟩ := y
    obtain ⟨p', vs, ep, h1, h2⟩ := g.sq (r0.mono t) r
    cases ep
    obtain ⟨d, e1, e2⟩ := h2.getV (y vs h1)
    refine ⟨TS.refl _, r, ?_⟩
    rw [List.getD_eq_getElem?_getD, e1]
    exact e2
  st := fun H A t r g => by
    obtain ⟨p', vs, ep, h1, h2⟩ := g.sq (r0.mono t) r
    cases ep
    exact ⟨vs, h1, by rw [h2.length]; exact Nat.le_refl _⟩
theorem ai_list (h : AE X a ρ A fun d A1 => ∃ ds, IsL A1 d ds ∧ kI A1 (fun A' => IsL A' d ds) ds.length (fun i => ds.getD i .non)) : AI X tg a ρ A kI := fun σ H s R q =>
  tmi_of (pi_list (pe_tm a)) (h σ H s _ fun v H1 d A1 t1 r1 l1 ⟨ds, hl, k1⟩ => by
    obtain ⟨p, vs, rfl, h1, h2⟩ := hl.sq r1 l1
    exact ⟨p, rfl, ⟨vs, h1⟩, q _ H1 A1 _ _ _ t1 l1 (wk_list r1) k1⟩)
theorem wk_enum {K : Frag} {H0 : Hp} {p : Addr} {x0 : D} {ds : List D} (r0 : Rp K H0 (.ref p) x0) : Wk K H0 (Ite K p) (fun A => IsL A x0 ds) ds.length (fun i => .tup [.int (i : Nat), ds.getD i .non]) where
  go := fun i H A h t r g => by
    obtain ⟨p', vs, ep, h1, h2⟩ := g.sq (r0.mono t) r
    cases ep
    have hi : i < vs.length := by rw [h2.length]; exact h
    exact ⟨vs, vs[i], h1, List.getElem?_eq_getElem hi⟩
  yl := fun i H A x H' h t r g y => by
    obtain ⟨T, z, rfl, hT, rfl, y⟩ := y
    obtain ⟨p', vs, ep, h1, h2⟩ := g.sq (r0.mono t) r
    cases ep
    obtain ⟨d, e1, e2⟩ := h2.getV (y vs h1)
    refine ⟨TS.new hT, r.newT hT, ?_⟩
    rw [List.getD_eq_getElem?_getD, e1]
    exact tup_ok (.cons (.int _) (.cons e2 .nil)) hT
  st := fun H A t r g => by
    obtain ⟨p', vs, ep, h1, h2⟩ := g.sq (r0.mono t) r
    cases ep
    exact ⟨vs, h1, by rw [h2.length]; exact Nat.le_refl _⟩
theorem ai_enum {elts : List Expr} {kk : Nat} {tpos : Pos} (hg : Gl X "enumerate") (hm : X.mg "enumerate" = none) (h : AE X a ρ A fun d A1 => ∃ ds, IsL A1 d ds ∧ kI A1 (fun A' => IsL A' d ds) ds.length (fun i => .tup [.int (i : Nat), ds.getD i .non]))
    (hs : starEach [a] X.env = [(false, eval a X.env)] := by rfl) : AI X (.Tuple elts kk tpos) (.Call (.Name "enumerate" p0) [a] [] pos) ρ A kI := fun σ H s R q =>
  tmi_of (pi_enum hg hm (pa_cons (pe_tm a) pa_nil hs) hs) (h σ H s _ fun v H1 d A1 t1 r1 l1 ⟨ds, hl, k1⟩ => by
    obtain ⟨p, vs, rfl, h1, h2⟩ := hl.sq r1 l1
    exact ⟨p, vs, rfl, h1, q _ H1 A1 _ _ _ t1 l1 (wk_enum r1) k1⟩)
theorem wk_zip {K : Frag} {H0 : Hp} {p p' : Addr} {x0 y0 : D} {ds ds' : List D} (r0 : Rp K H0 (.ref p) x0) (r0' : Rp K H0 (.ref p') y0) : Wk K H0 (Itz K p p') (fun A => IsL A x0 ds ∧ IsL A y0 ds') (min ds.length ds'.length) (fun i => .tup [ds.getD i .non, ds'.getD i .non]) where
  go := fun i H A h t r g => by
    obtain ⟨q1, vs, ep, h1, h2⟩ := g.1.sq (r0.mono t) r
    cases ep
    obtain ⟨q2, ws, ep, h3, h4⟩ := g.2.sq (r0'.mono t) r
    cases ep
    have hi : i < vs.length := by rw [h2.length]; omega
    have hj : i < ws.length := by rw [h4.length]; omega
    exact ⟨vs, ws, vs[i], ws[i], h1, h3, List.getElem?_eq_getElem hi, List.getElem?_eq_getElem hj⟩
  yl := fun i H A x H' h t r g y => by
    obtain ⟨T, z, z', rfl, hT, rfl, y, y'⟩ := y
    obtain ⟨q1, vs, ep, h1, h2⟩ := g.1.sq (r0.mono t) r
    cases ep
    obtain ⟨q2, ws, ep, h3, h4⟩ := g.2.sq (r0'.mono t) r
    cases ep
    obtain ⟨d, e1, e2⟩ := h2.getV (y vs h1)
    obtain ⟨d', e3, e4⟩ := h4.getV (y' ws h3)
    refine ⟨TS.new hT, r.newT hT, ?_⟩
    rw [List.getD_eq_getElem?_getD, List.getD_eq_getElem?_getD, e1, e3]
    exact tup_ok (.cons e2 (.cons e4 .nil)) hT
  st := fun H A t r g => by
    obtain ⟨q1, vs, ep, h1, h2⟩ := g.1.sq (r0.mono t) r
    cases ep
    obtain ⟨q2, ws, ep, h3, h4⟩ := g.2.sq (r0'.mono t) r
    cases ep
    refine ⟨vs, ws, h1, h3, ?_⟩
    rw [h2.length, h4.length]
    omega
theorem ai_zip {elts : List Expr} {kk : Nat} {tpos : Pos} (hg : Gl X "zip") (hm : X.mg "zip" = none) (h : AEs X [a, b] ρ A fun es' A1 => ∃ x y ds ds', es' = [x, y] ∧ IsL A1 x ds ∧ IsL A1 y ds' ∧ kI A1 (fun A' => IsL A' x ds ∧ IsL A' y ds') (min ds.length ds'.length) (fun i => .tup [ds.getD i .non, ds'.getD i .non]))
    (hs : starEach [a, b] X.env = (false, eval a X.env) :: starEach [b] X.env := by rfl) (hpl : (backTo pos (starEach [b] X.env)).any (·.1) = false := by rfl) : AI X (.Tuple elts kk tpos) (.Call (.Name "zip" p0) [a, b] [] pos) ρ A kI := fun σ H s R q =>
  tmi_of (pi_zip hg hm (pa_tm [a, b]) hs hpl) (h σ H s _ fun vs H1 es' A1 t1 r1 l1 ⟨x, y, ds, ds', e, hl, hl', k1⟩ => by
    subst e
    cases r1 with
    | cons r1 r =>
      cases r with
      | cons r2 r =>
        cases r
        obtain ⟨p, xs, rfl, h1, h2⟩ := hl.sq r1 l1
        obtain ⟨p', ys, rfl, h3, h4⟩ := hl'.sq r2 l1
        exact ⟨p, p', xs, ys, rfl, h1, h3, q _ H1 A1 _ _ _ t1 l1 (wk_zip r1 r2) k1⟩)

/-! ### comprehensions -/
def wipeR (ρ : Ro) : List Nat → Ro
  | [] => ρ
  | v :: vs => (wipeR ρ vs).set v none
theorem Sr.wipe {K : Frag} {σ : L2.St} {H : Hp} (s : Sr K ρ A σ H) : ∀ vs : List Nat, Sr K (wipeR ρ vs) A (L2.wipe σ vs) H
  | [] => s
  | v :: vs => (Sr.wipe s vs).unset v
theorem wipe_eq {σ : L2.St} : ∀ {vs : List Nat} {σ' : L2.St}, σ'.length = σ.length → (∀ j : Nat, j ∉ vs → σ'[j]? = σ[j]?) → L2.wipe σ' vs = L2.wipe σ vs := by
  intro vs σ' hl hj
  have key : ∀ (τ : L2.St) (us : List Nat) (j : Nat), (L2.wipe τ us)[j]? = if j ∈ us then (if j < τ.length then some none else none) else τ[j]? := by
    intro τ us j
    induction us with
    | nil => simp [L2.wipe]
    | cons u us ih =>
      rw [L2.wipe, List.getElem?_set, L2.wipe_length]
      by_cases h : u = j
      · subst h
        simp
      · rw [if_neg h, ih]
        have : ¬ j = u := fun z => h z.symm
        simp [this]
  apply List.ext_getElem?
  intro j
  rw [key, key, hl]
  split
  · rfl
  · rename_i h
    exact hj j h
theorem wipe_wipe {σ : L2.St} (vs : List Nat) : L2.wipe (L2.wipe σ vs) vs = L2.wipe σ vs := by
  refine wipe_eq (L2.wipe_length σ vs) fun j hj => ?_
  exact L2.wipe_out hj
/-- over all blocks -/
def blkE (X : Cx) (scope : Scope) (e : Expr) : TE := fun σ H Q => ∀ (s : Shared) (H0 : Hp) (C : Addr) (cl : List (Str × Addr)) (fp : List Addr), TM (X.blk s H0 scope (compEnvC scope cl C X.env) fp) e σ H Q
def blkG (X : Cx) (scope : Scope) (e : Expr) : TG := fun v σ H Q => ∀ (s : Shared) (H0 : Hp) (C : Addr) (cl : List (Str × Addr)) (fp : List Addr), TMG (X.blk s H0 scope (compEnvC scope cl C X.env) fp) e v σ H Q
/-- a comprehension's walk -/
def AC (X : Cx) (elt tg iter : Expr) (scope : Scope) (own : List (Str × Nat)) (ρ : Ro) (A : AH) (k : AK) : Prop := ∀ (σ : L2.St) (H : Hp), Sr X.K ρ A σ H → ∀ Q : VK, (∀ v H' d A', TS H H' → Rp X.K H' v d → Rel X.K A' H' → k d A' → Q v H') →
  tLc (fun σ H R => TMI X tg iter σ H R) (blkG X scope tg) tYes (blkE X scope elt) (own.map (·.2)) σ H Q
theorem AC.ae {tg iter elt : Expr} {scope : Scope} {own : List (Str × Nat)} (hc : X.calm = true) (hN : X.N.Nodup) (ok : BlkOk X.N X.env.scope scope own) (h : AC X elt tg iter scope own ρ A k)
    (hs : ∀ x, foldedSetIterable iter X.env x = pure x := by intro _; rfl) : AE X (.ListComp elt [⟨tg, iter, [], 0⟩] scope pos) ρ A k := fun σ H s Q q =>
  tm_of (pe_lc (g := blkG X scope tg) (tt := tYes) (te := blkE X scope elt) hc hN (pi_tm tg iter) ok (fun s H0 C cl fp => ⟨fun pins s1 σ1 H1 v u Q1 I r h => (h s H0 C cl fp).go pins s1 u I r⟩) (fun _ _ _ _ _ => pts_nil) (fun s H0 C cl fp => ⟨fun pins s1 σ1 H1 Q1 I h => (h s H0 C cl fp).go pins s1 I⟩) hs) (h σ H s Q q)
theorem AC.weak {tg iter elt : Expr} {scope : Scope} {own : List (Str × Nat)} (h : AC X elt tg iter scope own ρ A fun d A' => ∃ A'', Ext A'' A' ∧ k d A'') : AC X elt tg iter scope own ρ A k := fun σ H s Q hq => h σ H s Q fun v H' d A' t r l ⟨A'', x, q⟩ => hq v H' d A'' t r (l.sub x) q
theorem ac_lc {tg iter elt : Expr} {is : List Nat} {scope : Scope} {own : List (Str × Nat)} (hsub : ∀ i ∈ is, i ∈ own.map (·.2))
    (hi : AI X tg iter ρ A fun A1 G n f => n ≤ sizeLine ∧ ∃ Pv : Addr → Nat → List D → AH → Prop, (∀ p, A1 p = none → Pv p 0 [] (aupd A1 p (.lst []))) ∧ (∀ p i acc A', i ≤ n → Pv p i acc A' → G A' ∧ acc.length = i) ∧
      (∀ p i acc A', i < n → Pv p i acc A' → ∃ ρ2, ∀ (s : Shared) (H : Hp) (C : Addr) (cl : List (Str × Addr)) (fp : List Addr), AG (X.blk s H scope (compEnvC scope cl C X.env) fp) tg is (wipeR ρ (own.map (·.2))) (f i) ρ2 ∧
        AE (X.blk s H scope (compEnvC scope cl C X.env) fp) elt ρ2 A' fun d A2 => A2 p = some (.lst acc) ∧ Pv p (i + 1) (acc ++ [d]) (aupd A2 p (.lst (acc ++ [d])))) ∧
      ∀ p acc A', Pv p n acc A' → k (.ref p) A') : AC X elt tg iter scope own ρ A k := fun σ H s Q q => by
  refine hi σ H s _ fun J H1 A1 G n f t1 l1 wk ⟨hn, Pv, h0, hG, hb, hd⟩ D hD => ?_
  refine ⟨fun i m H' => ∃ acc A', TS H1 H' ∧ Rel X.K A' H' ∧ m = n - i ∧ i ≤ n ∧ Pv D i acc A', ⟨n, [], _, TS.new hD, (l1.newL hD .nil).2, by simp, Nat.zero_le _, h0 D (l1.none hD)⟩, ?_⟩
  rintro i m H2 ⟨acc, A2, t2, l2, rfl, hle, p2⟩
  obtain ⟨g2, ea⟩ := hG D i acc A2 hle p2
  by_cases hlt : i < n
  · refine .inr ⟨wk.go i H2 A2 hlt t2 l2 g2, fun H' => ∃ acc A', TS H1 H' ∧ Rel X.K A' H' ∧ Pv D (i + 1) acc A', ?_, ?_⟩
    · rintro H' ⟨acc, A', t', l', p'⟩
      exact ⟨n - (i + 1), by omega, acc, A', t', l', rfl, hlt, p'⟩
    · intro x H3 y3
      obtain ⟨t3, l3, r3⟩ := wk.yl i H2 A2 x H3 hlt t2 l2 g2 y3
      obtain ⟨ρ2, hb⟩ := hb D i acc A2 hlt p2
      intro s1 H01 C1 cl1 fp1
      have sW : Sr X.K (wipeR ρ (own.map (·.2))) A2 (L2.wipe σ (own.map (·.2))) H3 := (s.mono ((t1.trans t2).trans t3) l3).wipe _
      refine (hb s1 H01 C1 cl1 fp1).1 x _ H3 A2 sW r3 _ fun σ4 hl4 hj4 s4 => ?_
      refine ⟨(wipe_eq hl4 fun j hj => hj4 j fun z => hj (hsub j z)).trans (wipe_wipe _), ?_⟩
      unfold tYes
      dsimp only
      rw [if_pos rfl]
      intro s2 H02 C2 cl2 fp2
      refine (hb s2 H02 C2 cl2 fp2).2 σ4 H3 s4 _ fun v H4 d A4 t4 r4 l4 hp4 => ?_
      obtain ⟨vs, e1, e2⟩ := l4.lst hp4.1
      obtain ⟨t5, l5⟩ := l4.putL e1 (e2.append (.one r4))
      refine ⟨vs, e1, ?_, acc ++ [d], _, ((t2.trans t3).trans t4).trans t5, l5, hp4.2⟩
      rw [e2.length, ea]
      omega
  · have e : i = n := by omega
    subst e
    exact .inl ⟨wk.st H2 A2 t2 l2 g2, q (.ref D) H2 (.ref D) A2 (t1.trans t2) (.ref D) l2 (hd D acc A2 p2)⟩
/-- elements out of many: a new list -/
def AN (X : Cx) (e : Expr) (ρ : Ro) (A : AH) {α : Type} (enc : α → D) (Q : α → Prop) : Prop := ∀ k : AK, (∀ a, Q a → k (enc a) A) → AE X e ρ A k
theorem ac_lcN {α : Type} {enc : α → D} {Q : Nat → α → Prop} {tg iter elt : Expr} {is : List Nat} {scope : Scope} {own : List (Str × Nat)} {n : Nat} (hsub : ∀ i ∈ is, i ∈ own.map (·.2))
    (hi : AI X tg iter ρ A fun A1 G n' f => n' = n ∧ Ext A A1 ∧ n ≤ sizeLine ∧ (∀ A', Ext A1 A' → G A') ∧
      ∀ i, i < n → ∃ ρ2, ∀ (s : Shared) (H : Hp) (C : Addr) (cl : List (Str × Addr)) (fp : List Addr), AG (X.blk s H scope (compEnvC scope cl C X.env) fp) tg is (wipeR ρ (own.map (·.2))) (f i) ρ2 ∧ ∀ A', Ext A1 A' → AN (X.blk s H scope (compEnvC scope cl C X.env) fp) elt ρ2 A' enc (Q i))
    (q : ∀ as : List α, as.length = n → (∀ i a, as[i]? = some a → Q i a) → ∀ p, A p = none → k (.ref p) (aupd A p (.lst (as.map enc)))) : AC X elt tg iter scope own ρ A k := by
  refine AC.weak (ac_lc (is := is) hsub ?_)
  intro σ H s R hR
  refine hi σ H s R fun J H' A1 G n' f t l wk ⟨en, ex, hn, hG, hb⟩ => hR J H' A1 G n' f t l wk ?_
  subst en
  refine ⟨hn, fun p i acc A' => A1 p = none ∧ A' = aupd A1 p (.lst acc) ∧ ∃ as : List α, acc = as.map enc ∧ as.length = i ∧ ∀ j a, as[j]? = some a → Q j a, fun p hp => ⟨hp, rfl, [], rfl, rfl, fun j a h => by simp at h⟩, ?_, ?_, ?_⟩
  · rintro p i acc A' _ ⟨hp, rfl, as, rfl, hl, _⟩
    exact ⟨hG _ (Ext.new hp), by rw [List.length_map]; exact hl⟩
  · rintro p i acc A' hlt ⟨hp, rfl, as, rfl, hl, hq⟩
    obtain ⟨ρ2, hb⟩ := hb i hlt
    refine ⟨ρ2, fun s H C cl fp => ⟨(hb s H C cl fp).1, (hb s H C cl fp).2 _ (Ext.new hp) _ fun a ha => ⟨aupd_same, hp, ?_, as ++ [a], ?_, ?_, ?_⟩⟩⟩
    · rw [aupd_aupd]
    · rw [List.map_append]; rfl
    · rw [List.length_append, hl]; rfl
    · intro j b hj
      by_cases hlt' : j < as.length
      · rw [List.getElem?_append_left hlt'] at hj
        exact hq j b hj
      · rw [List.getElem?_append_right (by omega)] at hj
        have hj0 : j - as.length = 0 := by
          by_cases h0 : j - as.length = 0
          · exact h0
          · rw [List.getElem?_eq_none (by show [a].length ≤ _; simp; omega)] at hj
            exact nomatch hj
        rw [hj0] at hj
        have : a = b := Option.some.inj hj
        subst this
        have : j = i := by omega
        rw [this]
        exact ha
  · rintro p acc A' ⟨hp, rfl, as, rfl, hl, hq⟩
    exact ⟨aupd A p (.lst (as.map enc)), ex.upd p _, q as hl hq p (ex.none hp)⟩
/-- pure elements: a new list -/
theorem ac_lcP {tg iter elt : Expr} {is : List Nat} {scope : Scope} {own : List (Str × Nat)} {g : Nat → D} {n : Nat} (hsub : ∀ i ∈ is, i ∈ own.map (·.2))
    (hi : AI X tg iter ρ A fun A1 G n' f => n' = n ∧ Ext A A1 ∧ n ≤ sizeLine ∧ (∀ A', Ext A1 A' → G A') ∧
      ∀ i, i < n → ∃ ρ2, ∀ (s : Shared) (H : Hp) (C : Addr) (cl : List (Str × Addr)) (fp : List Addr), AG (X.blk s H scope (compEnvC scope cl C X.env) fp) tg is (wipeR ρ (own.map (·.2))) (f i) ρ2 ∧ ∀ A', Ext A1 A' → AV (X.blk s H scope (compEnvC scope cl C X.env) fp) elt ρ2 A' (g i))
    (q : ∀ p, A p = none → k (.ref p) (aupd A p (.lst ((List.range n).map g)))) : AC X elt tg iter scope own ρ A k := by
  refine ac_lcN (is := is) (enc := id) (Q := fun i d => d = g i) (n := n) hsub ?_ fun as hl hq p hp => ?_
  · intro σ H s R hR
    refine hi σ H s R fun J H' A1 G n' f t l wk ⟨en, ex, hn, hG, hb⟩ => hR J H' A1 G n' f t l wk ⟨en, ex, hn, hG, fun i h => ?_⟩
    obtain ⟨ρ2, hb⟩ := hb i h
    exact ⟨ρ2, fun s H C cl fp => ⟨(hb s H C cl fp).1, fun A' x k hk => ((hb s H C cl fp).2 A' x).ae (hk _ rfl)⟩⟩
  · have e : as.map id = (List.range n).map g := by
      rw [List.map_id]
      apply List.ext_getElem?
      intro i
      rw [List.getElem?_map]
      by_cases hi : i < n
      · rw [List.getElem?_eq_getElem (by omega), List.getElem?_range hi]
        exact congrArg some (hq i _ (List.getElem?_eq_getElem (by omega)))
      · rw [List.getElem?_eq_none (by omega), List.getElem?_eq_none (by simp; omega)]
        rfl
    rw [e]
    exact q p hp
end
end C7
namespace C7
open PySem PySem.Spec PyProof.Rows L2

/-! ### contracts -/
/-- arguments, what is known, what is wanted of the answer, what is wanted of a refusal's class -/
abbrev Ct := List D → AH → AK → (Value → AH → Prop) → Prop
def spOf (K : Frag) (ct : Ct) : Sp := fun vs H Q E => ∃ ds A k e, Rps K H vs ds ∧ Rel K A H ∧ ct ds A k e ∧ (∀ v H' d A', TS H H' → Rp K H' v d → Rel K A' H' → k d A' → Q v H') ∧ (∀ c H' A', TS H H' → Rel K A' H' → e c A' → E c none H')
structure Fn (P : Program) (w : World) (K : Frag) (mg : Str → Option Value) (base : Heap) (x : Str) (k : Nat) (ct : Ct) : Prop where
  ex : ∃ f fd ps, FnOk P w K mg base (L2N.CX P w) k f fd ps (spOf K ct) ∧ mg x = some (.ref f) ∧ PySem.W.keepIn K (.ref f) = true ∧ Binds K fd ps []
/-- an expression that may raise -/
def AEx (X : Cx) (W : WX) (e : Expr) (ρ : Ro) (A : AH) (xc : Value → AH → Prop) (k : AK) : Prop := ∀ (σ : L2.St) (H : Hp), Sr X.K ρ A σ H → ∀ Q : VK, (∀ v H' d A', TS H H' → Rp X.K H' v d → Rel X.K A' H' → k d A' → Q v H') →
  (∀ c H' A', TS H H' → Rel X.K A' H' → xc c A' → W c none σ H') → TM X e σ H Q
theorem passN {X : Cx} : Passes (L2N.CX X.prog X.w) X E0 := fun _ _ _ _ _ _ _ h => by
  obtain ⟨_, _, _, _, _, _, _, _, _, _, _, _, z⟩ := h
  exact z.elim
section
variable {X : Cx} {W : WX} {ρ : Ro} {A : AH} {E : AEnds} {e a b : Expr} {es : List Expr} {pos p0 : Pos} {d x y : D} {k : AK} {n : Str} {ct : Ct} {lv : Nat} {ds : List D} {rest : List Stmt} {xc : Value → AH → Prop}
theorem ae_call (F : Fn X.prog X.w X.K X.mg X.base n lv ct) (hr : Room lv X.A) (hg : Gl X n) (h : AEs X (e :: es) ρ A fun ds A1 => ct ds A1 k fun _ _ => False)
    (hdb : (n == ("__debug__" : Str)) = false := by decide) (he : starEach (e :: es) X.env = (false, eval e X.env) :: starEach es X.env := by rfl) (hpl : (backTo pos (starEach es X.env)).any (·.1) = false := by rfl) :
    AE X (.Call (.Name n p0) (e :: es) [] pos) ρ A k := fun σ H s Q q => by
  obtain ⟨f, fd, ps, F, hm, hk, hb⟩ := F.ex
  refine tm_of (pe_call (E := E0) (dvs := []) F hr hg hm hk hb .nil passN (pa_tm (e :: es)) hdb he hpl) ?_
  refine h σ H s _ fun vs H1 ds A1 t1 r1 l1 h1 => ?_
  refine ⟨ds, A1, k, fun _ _ => False, by rw [List.append_nil]; exact r1, l1, h1, fun v H' d A' t2 r2 l2 k2 => q v H' d A' (t1.trans t2) r2 l2 k2, fun _ _ _ _ _ z => z⟩
theorem av_call (F : Fn X.prog X.w X.K X.mg X.base n lv ct) (hr : Room lv X.A) (hg : Gl X n) (ha : AVs X (e :: es) ρ A ds) (h : ct ds A (fun d' A' => d' = d ∧ Ext A A') fun _ _ => False)
    (hdb : (n == ("__debug__" : Str)) = false := by decide) (he : starEach (e :: es) X.env = (false, eval e X.env) :: starEach es X.env := by rfl) (hpl : (backTo pos (starEach es X.env)).any (·.1) = false := by rfl) :
    AV X (.Call (.Name n p0) (e :: es) [] pos) ρ A d := AE.av (ae_call F hr hg (ha.aes h) hdb he hpl)
theorem aex_call (F : Fn X.prog X.w X.K X.mg X.base n lv ct) (tk : L2N.Takes X W) (hr : Room lv X.A) (hg : Gl X n) (h : AEs X (e :: es) ρ A fun ds A1 => ct ds A1 k xc)
    (hdb : (n == ("__debug__" : Str)) = false := by decide) (he : starEach (e :: es) X.env = (false, eval e X.env) :: starEach es X.env := by rfl) (hpl : (backTo pos (starEach es X.env)).any (·.1) = false := by rfl) :
    AEx X W (.Call (.Name n p0) (e :: es) [] pos) ρ A xc k := fun σ H s Q q hx => by
  obtain ⟨f, fd, ps, F, hm, hk, hb⟩ := F.ex
  refine tm_of (pe_callS (E := WE W) F hr hg hm hk hb (fun σ => L2N.passAt tk σ) (pa_tm (e :: es)) hdb he hpl) ?_
  refine h σ H s _ fun vs H1 ds A1 t1 r1 l1 h1 => ?_
  exact ⟨ds, A1, k, xc, r1, l1, h1, fun v H' d A' t2 r2 l2 k2 => q v H' d A' (t1.trans t2) r2 l2 k2, fun c H' A' t2 l2 k2 => hx c H' A' (t1.trans t2) l2 k2⟩
theorem AE.aex (h : AE X e ρ A k) : AEx X W e ρ A xc k := fun σ H s Q q _ => h σ H s Q q
theorem a1_retx (h : AEx X W e ρ A (fun c A' => E.xc c ρ A') E.rt) : A1 X W (.Return (some e) pos) ρ A E := fun σ H s D q => tm1_of (ps_ret (pe_tm e)) (h σ H s _ (fun v H' d A' t r l kd => q.rt d A' v H' t l r kd) fun c H' A' t l kd => q.xc c ρ A' σ H' t (s.mono t l) kd)
theorem a1_exprx (h : AEx X W e ρ A (fun c A' => E.xc c ρ A') fun _ A' => E.nx ρ A') (hs : swapsWith e none pos.line X.env = pure false := by rfl) : A1 X W (.Expr e pos) ρ A E := fun σ H s D q =>
  tm1_of (ps_expr (pe_tm e) hs) (h σ H s _ (fun v H' d A' t r l kd => q.nx ρ A' σ H' t (s.mono t l) kd) fun c H' A' t l kd => q.xc c ρ A' σ H' t (s.mono t l) kd)
theorem a1_setx {i : Nat} {pos' : Pos} (hN : X.N.Nodup) (hi : X.N[i]? = some n) (hx : Loc X.env.scope n) (h : AEx X W e ρ A (fun c A' => E.xc c ρ A') fun d A' => E.nx (ρ.set i (some d)) A') (hs : swapsWith e (some (.Name n pos')) pos.line X.env = pure false := by rfl)
    (hf : X.fn n = true ∨ X.env.scope.names.lookup n = some .local := by first | exact .inl rfl | exact .inr rfl | assumption) : A1 X W (.Assign [.Name n pos'] e pos) ρ A E := fun σ H s D q =>
  tm1_of (ps_set (i := i) hN hi hx (pe_tm e) hs hf) (h σ H s _ (fun v H' d A' t r l kd => q.nx _ A' _ H' t ((s.mono t l).set i r) kd) fun c H' A' t l kd => q.xc c ρ A' σ H' t (s.mono t l) kd)
/-- raise X('..') -/
theorem a1_raise {C : Addr} {m : Str} {j : Nat} {p2 : Pos} {B newId initId : String} {bmB : List Value} (hc : X.calm = true) (tk : L2N.Takes X W) (F : ExcBaseFacts B newId initId bmB) (q : PySem.W.excIn X.K C bmB newId = true) (gC : X.mg n = some (.ref C)) (kC : PySem.W.keepIn X.K (.ref C) = true) (r : Raises X (.ref C)) (hg : Gl X n)
    (h : E.xc (.ref C) ρ A) (hdb : (n == ("__debug__" : Str)) = false := by decide) : A1 X W (.Raise (some (.Call (.Name n p0) [.Constant (.str m) j p2] [] pos)) none pos') ρ A E := fun σ H s D qq =>
  tm1_of (L2N.ps_raise hc tk (L2N.pmk_own F q gC kC r hg hdb)) (qq.xc _ ρ A σ H (TS.refl H) s h)
end

/-! ### a def -/
section
variable {P : Program} {w : World} {K : Frag} {mg : Str → Option Value} {base : Heap}
theorem okN {x qual : Str} {st : Stmt} {f : Addr} {fd : FuncData} {N ps : List Str} {k : Nat} {sp : Sp} (F : Fun K x qual st f fd) (S : FnScope N ps (defScope st)) (len : ∀ vs H Q E, sp vs H Q E → vs.length = ps.length)
    (hbody : ∀ (cdv : Value) (A : Around) (outer : List Env) (s : Shared) (H : Hp) (vs : List V) (Q : VK) (E : XK), Room k (A.deeper (envOfC qual (defScope st) s.heap.objs.size f cdv)) → sp vs H Q E →
      ∃ t, PSs (cxOf (L2N.CX P w) P w K mg base N qual (defScope st) f cdv A outer s H E) (defBody st) t ∧ t { nx := fun _ H' => Q .non H', rt := Q } (L2.start N vs) H) : FnOk P w K mg base (L2N.CX P w) (k + 1) f fd ps sp := by
  obtain ⟨oc, od, kV, doc, pm, an, cdv, ct, osl, rfl, lk, hcd⟩ := F.ex
  exact fn_of lk hcd S len fun A outer s H vs Q E hr hsp => hbody cdv A outer s H vs Q E hr hsp
/-- the body of a def keeps a contract -/
abbrev BodyOk (P : Program) (w : World) (K : Frag) (mg : Str → Option Value) (base : Heap) (N : List Str) (qual : Str) (st : Stmt) (f : Addr) (k : Nat) (ct : Ct) : Prop :=
  ∀ (cdv : Value) (A0 : Around) (outer : List Env) (s : Shared) (H : Hp) (E : XK),
      Room k (cxOf (L2N.CX P w) P w K mg base N qual (defScope st) f cdv A0 outer s H E).A → PassesOwn (model P w) (cxOf (L2N.CX P w) P w K mg base N qual (defScope st) f cdv A0 outer s H E).A (cxOf (L2N.CX P w) P w K mg base N qual (defScope st) f cdv A0 outer s H E).env (cxOf (L2N.CX P w) P w K mg base N qual (defScope st) f cdv A0 outer s H E).xe →
      L2N.Takes (cxOf (L2N.CX P w) P w K mg base N qual (defScope st) f cdv A0 outer s H E) (fun cls d _ H => E cls d H) →
      ∀ ds A kk ee, ct ds A kk ee → AS (cxOf (L2N.CX P w) P w K mg base N qual (defScope st) f cdv A0 outer s H E) (fun cls d _ H => E cls d H) (defBody st) (ds.map some ++ List.replicate (N.length - ds.length) none) A { nx := fun _ A' => kk .non A', rt := kk, xc := fun c _ A' => ee c A' }
/-- THE RULE for a def -/
theorem fnok_mk {x qual : Str} {st : Stmt} {f : Addr} {fd : FuncData} {N ps : List Str} {k : Nat} {ct : Ct} (F : Fun K x qual st f fd) (S : FnScope N ps (defScope st))
    (len : ∀ ds A k e, ct ds A k e → ds.length = ps.length) (body : BodyOk P w K mg base N qual st f k ct) : FnOk P w K mg base (L2N.CX P w) (k + 1) f fd ps (spOf K ct) := by
  refine okN F S (fun vs H Q E h => ?_) (fun cdv A0 outer s H vs Q E hr h => ?_)
  · obtain ⟨ds, A, kk, ee, r, _, c, _, _⟩ := h
    rw [r.length]; exact len ds A kk ee c
  · obtain ⟨ds, A, kk, ee, r, l, c, h1, h2⟩ := h
    refine ⟨_, pss_tm _, ?_⟩
    refine body cdv A0 outer s H E hr (passes_of rfl) (L2N.takes_of rfl rfl rfl rfl) ds A kk ee c (L2.start N vs) H ⟨?_, fun i d e => ?_, l⟩ _ ⟨?_, ?_, ?_, ?_, ?_⟩
    · simp [L2.start, r.length]
    · have hl : vs.length = ds.length := r.length
      by_cases hi : i < ds.length
      · rw [List.getElem?_append_left (by simpa using hi), List.getElem?_map] at e
        cases q : ds[i]? with
        | none => rw [q] at e; cases e
        | some d' =>
          rw [q] at e
          cases e
          obtain ⟨v, e1, e2⟩ := r.get q
          refine ⟨v, ?_, e2⟩
          unfold L2.start
          rw [List.getElem?_append_left (by simpa [hl] using hi), List.getElem?_map, e1]
          rfl
      · rw [List.getElem?_append_right (by simpa using hi), List.getElem?_replicate] at e
        split at e <;> cases e
    · intro ρ' A' σ' H' t s' hk
      exact h1 .non H' .non A' t .non s'.hp hk
    · intro d A' v H' t l' r' hk
      exact h1 v H' d A' t r' l' hk
    · intro _ _ _ _ _ _ z; exact z.elim
    · intro _ _ _ _ _ _ z; exact z.elim
    · intro c ρ' A' σ' H' t s' hk
      exact h2 c H' A' t s'.hp hk
/-- what the top has left of a def -/
structure DefF (K : Frag) (mg : Str → Option Value) (x : Str) (st : Stmt) (ps : List Str) : Prop where
  ex : ∃ f fd, Fun K x x st f fd ∧ mg x = some (.ref f) ∧ Binds K fd ps []
theorem fn_mk {x : Str} {st : Stmt} {N ps : List Str} {k : Nat} {ct : Ct} (d : DefF K mg x st ps) (S : FnScope N ps (defScope st))
    (len : ∀ ds A k e, ct ds A k e → ds.length = ps.length) (body : ∀ f, BodyOk P w K mg base N x st f k ct) : Fn P w K mg base x (k + 1) ct := by
  obtain ⟨f, fd, F, hm, hb⟩ := d.ex
  exact ⟨f, fd, ps, fnok_mk F S len (body f), hm, F.kp, hb⟩
theorem def_mk {h : Heap} {x : Str} {st : Stmt} {f : Addr} {ps : List Str} {oc : Value} {od an : Option Addr} {osl : Array (Option Value)} {kV doc pm cdv ct : Value} (X : K.In h) (G : h.Ns mainGlobals mg) (a : PySem.W.nsIn K mainGlobals x = some (some (.ref f)))
    (l : K.lookup f = some ⟨oc, od, .func (PySem.W.fnOf x x (defArgs st) (defBody st) (defScope st) .none kV doc pm an cdv ct), osl⟩) (c : PySem.W.codeIn K cdv x = true) (k : PySem.W.keepIn K (.ref f) = true)
    (hb : ∀ (kV doc pm : Value) (an : Option Addr) (cdv ct : Value) (us : List Value), us.length = ps.length → bindArgs (PySem.W.fnOf x x (defArgs st) (defBody st) (defScope st) .none kV doc pm an cdv ct) ⟨us, []⟩ = pure (ps.zip us)) : DefF K mg x st ps :=
  have F := fun_mk (st := st) l c k
  ⟨f, _, F, PySem.W.mg_of X G a, F.binds hb⟩
/-- the law's own def -/
structure LawF (K : Frag) (mg : Str → Option Value) (st : Stmt) (n : Str) : Prop where
  ex : ∃ f fd, Fun K "law" "law" st f fd ∧ mg "law" = some (.ref f) ∧ ∀ (s : Shared) (v : Value), BindsTo s fd ⟨[v], []⟩ [(n, v)]
theorem law_mk {h : Heap} {st : Stmt} {f : Addr} {n : Str} {oc : Value} {od an : Option Addr} {osl : Array (Option Value)} {kV doc pm cdv ct : Value} (X : K.In h) (G : h.Ns mainGlobals mg) (a : PySem.W.nsIn K mainGlobals "law" = some (some (.ref f)))
    (l : K.lookup f = some ⟨oc, od, .func (PySem.W.fnOf "law" "law" (defArgs st) (defBody st) (defScope st) .none kV doc pm an cdv ct), osl⟩) (c : PySem.W.codeIn K cdv "law" = true) (k : PySem.W.keepIn K (.ref f) = true)
    (hb : ∀ (kV doc pm : Value) (an : Option Addr) (cdv ct : Value) (v : Value), bindArgs (PySem.W.fnOf "law" "law" (defArgs st) (defBody st) (defScope st) .none kV doc pm an cdv ct) ⟨[v], []⟩ = pure [(n, v)]) : LawF K mg st n :=
  ⟨f, _, fun_mk (st := st) l c k, PySem.W.mg_of X G a, fun _ v => .of_eq (hb _ _ _ _ _ _ v)⟩
/-- an own class of refusals, under ValueError -/
structure ExcF (K : Frag) (mg : Str → Option Value) (x : Str) (C : Addr) : Prop where
  g : mg x = some (.ref C)
  x : PySem.W.excIn K C [.type "ValueError", .type "Exception", .type "BaseException", .type "object"] "ValueError.__new__" = true
  k : PySem.W.keepIn K (.ref C) = true
  b : PySem.W.subIn K (.ref C) (.type "BaseException") = some true
  t : PySem.W.typeIn K (.ref C) = some (.type "type")
  d : PySem.W.hasDictIn K C = true
theorem kit_ref {C : Addr} {t : Value} {b : Bool} {x : Str} (e : ExcF K mg x C) (hs : PySem.W.subIn K t (.ref C) = some b) (hb : b = true ∨ (t == .ref C) = false) : PySem.W.kitOne K t (.ref C) = some b := by
  unfold PySem.W.kitOne
  split
  · rename_i h
    rcases hb with rfl | hb
    · rfl
    · rw [hb] at h; cases h
  · obtain ⟨cd, hc, _⟩ := PySem.W.any_some e.d
    show (if ((PySem.W.clsIn K C).isSome && PySem.W.typeIn K (.ref C) == some (.type "type")) = true then PySem.W.subIn K t (.ref C) else none) = some b
    rw [if_pos (by rw [hc, e.t]; rfl)]
    exact hs
theorem kit_type {C : Addr} {T : String} {b : Bool} (hm : PySem.W.kitMeta T = true) (hs : PySem.W.subIn K (.ref C) (.type T) = some b) : PySem.W.kitOne K (.ref C) (.type T) = some b := by
  unfold PySem.W.kitOne
  rw [if_neg (by intro h; cases h)]
  show (if PySem.W.kitMeta T = true then PySem.W.subIn K (.ref C) (.type T) else none) = some b
  rw [if_pos hm]
  exact hs
theorem exm_own {C : Addr} {cls : Value} {b : Bool} {x : Str} (e : ExcF K mg x C) (hs : PySem.W.subIn K cls (.ref C) = some b) : PySem.W.exmOne K cls (.ref C) = some b := PySem.W.exm_ref e.b e.d e.t hs
theorem a1_raiseF {X : Cx} {W : WX} {ρ : Ro} {A : AH} {E : AEnds} {x m : Str} {C : Addr} {j : Nat} {p0 p2 pos pos' : Pos} (e : ExcF X.K X.mg x C) (hc : X.calm = true) (tk : L2N.Takes X W) (hg : Gl X x) (h : E.xc (.ref C) ρ A) (hdb : (x == ("__debug__" : Str)) = false := by decide) :
    A1 X W (.Raise (some (.Call (.Name x p0) [.Constant (.str m) j p2] [] pos)) none pos') ρ A E := a1_raise hc tk PySem.F.excBase_ValueError e.x e.g e.k (raises_own e.b e.t) hg h hdb
/-- the law's contract: of any script, True -/
def ctLaw : Ct := fun ds A k _ => ∃ ns : List Int, ds = [.cl (ns.map D.int)] ∧ ns.length ≤ 63 ∧ ∀ A', k (.bl true) A'
theorem vals_rps {H : Hp} : ∀ ns : List Int, Rps K H (ns.map V.int) (ns.map D.int)
  | [] => .nil
  | n :: ns => .cons (.int n) (vals_rps ns)
theorem walk_c7 {l : PySem.W.OpenLaw} {k : Nat} {q : Program} {loose : List Str} {XP : (Str → Option Value) → Heap → Prop} {YP : World → Heap → Prop} {d : DefRec} {K : Params → PySem.W.Frag} {x : Str}
    (hn : l.most = some 63) (hdf : d.params.defaults = []) (hnm : d.name = "law") (hr : Room k callerA)
    (hY : ∀ (w : World) (h : Heap), YP w h → (K w.params).In h)
    (F : ∀ (w : World) (mg : Str → Option Value) (h : Heap), (K w.params).In h → h.Ns mainGlobals mg → ∃ st, LawF (K w.params) mg st x ∧
        ∀ (base : Heap) (f : Addr) (fd : FuncData), Fun (K w.params) "law" "law" st f fd → FnOk l.prog w (K w.params) mg base (L2N.CX l.prog w) k f fd [x] (spOf (K w.params) ctLaw)) :
    PySem.W.WalkO q loose XP YP l.row.toRowW d [] (fun f vs => PySem.call f vs) := by
  refine walk_of (K := K) (x := x) (CX := fun w => L2N.CX l.prog w) (sp := fun w => spOf (K w.params) ctLaw) hn (by decide) hdf hr hY ?_ ?_ ?_
  · intro w mg fa h KX G hfa
    obtain ⟨st, ⟨f, fd, FF, hm, hb⟩, hF⟩ := F w mg h KX G
    rw [hnm] at hfa
    have e := hfa.symm.trans hm
    cases e
    exact ⟨fd, hb, fun base _ _ => hF base fa fd FF⟩
  · intro w H a ns hl hO hS
    refine ⟨[.cl (ns.map D.int)], fun _ => none, fun d _ => d = .bl true, fun _ _ => False, ?_, fun _ _ z => (nomatch z), ⟨ns, rfl, hl, fun _ => rfl⟩, fun v H' d A' _ r _ q => by rw [q] at r; exact r.bl_of, fun _ _ _ _ _ z => z⟩
    refine .one (.cl (vs := ns.map V.int) ?_ (vals_rps ns))
    rcases hS with (h | h) | h
    · rcases hO a with z | ⟨o, xs, z⟩
      · rw [h] at z; cases z
      · rw [h] at z; cases z
    · exact .inl h
    · exact .inr h
  · intro w H s e s' hx
    obtain ⟨_, _, _, _, _, _, _, _, _, _, _, _, z⟩ := hx
    exact z
end

/-! ### built-ins -/
section
variable {X : Cx} {W : WX} {ρ : Ro} {A : AH} {e a b : Expr} {es : List Expr} {pos p0 : Pos} {d x y : D} {k : AK} {ds : List D} {i j : Int}
theorem rps1 {K : Frag} {H : Hp} {vs : List V} {d : D} (h : Rps K H vs [d]) : ∃ v, vs = [v] ∧ Rp K H v d := by cases h with | cons a b => cases b; exact ⟨_, rfl, a⟩
theorem rps2 {K : Frag} {H : Hp} {vs : List V} {d d' : D} (h : Rps K H vs [d, d']) : ∃ v v', vs = [v, v'] ∧ Rp K H v d ∧ Rp K H v' d' := by
  cases h with
  | cons a b => cases b with | cons b c => cases c; exact ⟨_, _, rfl, a, b⟩
theorem av_abs (hg : Gl X "abs") (hm : X.mg "abs" = none) (ha : AV X a ρ A (.int i)) (hs : starEach [a] X.env = [(false, eval a X.env)] := by rfl) : AV X (.Call (.Name "abs" p0) [a] [] pos) ρ A (.int (if i < 0 then -i else i)) :=
  av_callB call_abs hg hm (by decide +kernel) (avs_cons ha avs_nil hs) (fun vs H r l Q q => by
    obtain ⟨v, rfl, r1⟩ := rps1 r
    rw [r1.int_of]
    exact ⟨i, rfl, q _ H (TS.refl H) (.int _) l⟩) (he := hs) (hpl := rfl)
theorem ae_len (hg : Gl X "len") (hm : X.mg "len" = none) (h : AE X a ρ A fun d A1 => (∃ ds, IsL A1 d ds ∧ k (.int (ds.length : Nat)) A1) ∨ (∃ ds, d = .tup ds ∧ k (.int (ds.length : Nat)) A1)) (hs : starEach [a] X.env = [(false, eval a X.env)] := by rfl) : AE X (.Call (.Name "len" p0) [a] [] pos) ρ A k :=
  ae_callB call_len_seq hg hm PySem.boot_len (aes_cons (h.mono fun d A1 hd => aes_nil (fun vs H r l Q q => by
    obtain ⟨v, rfl, r1⟩ := rps1 r
    rcases hd with ⟨ds, hl, hk⟩ | ⟨ds, rfl, hk⟩
    · obtain ⟨p, ws, rfl, h1, h2⟩ := hl.sq r1 l
      exact ⟨p, ws, rfl, .inl h1, q _ H _ A1 (TS.refl H) (by rw [h2.length]; exact .int _) l hk⟩
    · obtain ⟨p, ws, rfl, h1, h2⟩ := r1.tup_of
      exact ⟨p, ws, rfl, .inr h1, q _ H _ A1 (TS.refl H) (by rw [h2.length]; exact .int _) l hk⟩)) hs) (he := hs) (hpl := rfl)
theorem av_lenL (hg : Gl X "len") (hm : X.mg "len" = none) (h : AV X a ρ A x) (hl : IsL A x ds) (hs : starEach [a] X.env = [(false, eval a X.env)] := by rfl) : AV X (.Call (.Name "len" p0) [a] [] pos) ρ A (.int (ds.length : Nat)) :=
  AE.av (ae_len hg hm (h.ae (.inl ⟨ds, hl, rfl, Ext.refl A⟩)) hs)
theorem av_divmod (hg : Gl X "divmod") (hm : X.mg "divmod" = none) (ha : AVs X [a, b] ρ A [.int i, .int j]) (h : CDivP i j) (hs : starEach [a, b] X.env = (false, eval a X.env) :: starEach [b] X.env := by rfl) (hpl : (backTo pos (starEach [b] X.env)).any (·.1) = false := by rfl) : AV X (.Call (.Name "divmod" p0) [a, b] [] pos) ρ A (.tup [.int (i / j), .int (i % j)]) :=
  av_callB call_divmodW hg hm (by decide +kernel) ha (fun vs H r l Q q => by
    obtain ⟨v, v', rfl, r1, r2⟩ := rps2 r
    rw [r1.int_of, r2.int_of]
    exact ⟨i, j, rfl, h, fun p hp => q _ _ (TS.new hp) (tup_ok (.cons (.int _) (.cons (.int _) .nil)) hp) (l.newT hp)⟩) (he := hs) (hpl := hpl)
/-- a built-in class, as a value -/
theorem av_ty {n : Str} {U : String} (hg : Gl X n) (hm : X.mg n = none) (hv : bootBuiltins n = some (.type U)) (hn : n ≠ "__name__" := by decide) (hd : (n == ("__debug__" : Str)) = false := by decide) : AV X (.Name n pos) ρ A (.ty U) :=
  av_bltn hg hm hv (v := .ty U) rfl (fun _ => .ty U) hn hd
/-- isinstance -/
inductive TyD (A : AH) : D → String → Prop where
  | non : TyD A .non "NoneType"
  | bl (b : Bool) : TyD A (.bl b) "bool"
  | int (i : Int) : TyD A (.int i) "int"
  | str (x : Str) : TyD A (.str x) "str"
  | tup (ds : List D) : TyD A (.tup ds) "tuple"
  | lst {x : D} {ds : List D} (h : IsL A x ds) : TyD A x "list"
theorem TyD.tyx {K : Frag} {H : Hp} {T : String} {v : V} (t : TyD A d T) (r : Rp K H v d) (l : Rel K A H) : TyX K H v (.type T) := by
  cases t with
  | non => rw [r.non_of]; exact .base .non
  | bl b => rw [r.bl_of]; exact .base (.bl b)
  | int i => rw [r.int_of]; exact .base (.int i)
  | str x => rw [r.str_of]; exact .base (.str x)
  | tup ds =>
    obtain ⟨p, vs, rfl, h1, _⟩ := r.tup_of
    rcases h1 with (h | ⟨o, h⟩) | ⟨o, its, n, h, hc, _⟩
    · exact .base (.tup h)
    · exact .fTuple h
    · exact .kTuple h hc
  | lst h =>
    rcases h with ⟨p, rfl, h⟩ | rfl | rfl
    · rw [r.ref_of]
      obtain ⟨vs, e, _⟩ := l.lst h
      exact .base (.lst e)
    · obtain ⟨p, vs, rfl, h1, _⟩ := r.cl_of
      rcases h1 with ⟨o, h⟩ | ⟨o, its, n, h, hc, _⟩
      · exact .base (.frz h)
      · exact .kList h hc
    · obtain ⟨p, o, vs, rfl, h1, _⟩ := r.fz_of
      exact .base (.frz h1)
theorem av_isi {T U : String} {bb : Bool} (hg : Gl X "isinstance") (hm : X.mg "isinstance" = none) (ha : AVs X [a, b] ρ A [d, .ty U]) (ht : TyD A d T) (hk : kitB T U = some bb) (hs : starEach [a, b] X.env = (false, eval a X.env) :: starEach [b] X.env := by rfl) (hpl : (backTo pos (starEach [b] X.env)).any (·.1) = false := by rfl) :
    AV X (.Call (.Name "isinstance" p0) [a, b] [] pos) ρ A (.bl bb) :=
  av_callB call_isi hg hm (by decide +kernel) ha (fun vs H r l Q q => by
    obtain ⟨v, v', rfl, r1, r2⟩ := rps2 r
    rw [r2.ty_of]
    exact ⟨v, .ty U, .type T, .type U, bb, rfl, .ty U, ht.tyx r1 l, kit_ty hk, q _ H (TS.refl H) (.bl _) l⟩) (he := hs) (hpl := hpl)

/-! ### methods of lists -/
variable {name : Str} {o : Expr} {apos cpos : Pos} {p : Addr}
theorem tyL {K : Frag} {H : Hp} {vs : List V} (h : H p = some (.lst vs)) : tyV K "list" (.ref p) H := .inl ⟨rfl, vs, SqL.of h⟩
theorem ae_append (h : AE X o ρ A fun x A1 => ∃ p, x = .ref p ∧ (∃ ds0, A1 p = some (.lst ds0)) ∧ AE X e ρ A1 fun d A2 => ∃ ds, A2 p = some (.lst ds) ∧ ds.length < sizeLine ∧ k .non (aupd A2 p (.lst (ds ++ [d]))))
    (hbase : attributeBase o "append" X.env (eval o X.env) = eval o X.env := by rfl) (hfew : ((backTo cpos (starEach [e] X.env)).all (fun x => !x.1) && (backToKw cpos (keywordEach [] X.env)).all (fun x => x.1.isSome)
      && decide (([e] : List Expr).length + ([] : List Keyword).length + (if ([] : List Keyword).isEmpty then 0 else 1) < 30)) = true := by rfl)
    (hline : (apos.endLine == cpos.line) = true := by rfl) (hs : starEach [e] X.env = (false, eval e X.env) :: starEach [] X.env := by rfl) (hplain : (backTo cpos (starEach [] X.env)).any (·.1) = false := by rfl) :
    AE X (.Call (.Attribute o "append" apos) [e] [] cpos) ρ A k := fun σ H s Q q =>
  tm_of (pe_bm PySem.F.plainAttrs_list PySem.F.slot_list_append PySem.F.type_list_append mt_append (pe_tm o) (pa_cons (pe_tm e) pa_nil hs) hbase hfew hline hs hplain) (h σ H s _ fun v H1 x A1 t1 r1 l1 ⟨p, e1, ⟨ds0, e0⟩, h1⟩ => by
    subst e1
    rw [r1.ref_of]
    obtain ⟨vs0, e2, _⟩ := l1.lst e0
    refine ⟨tyL e2, h1 σ H1 (s.mono t1 l1) _ fun u H2 d A2 t2 r2 l2 ⟨ds, e3, hz, k2⟩ => ?_⟩
    obtain ⟨vs, e4, r4⟩ := l2.lst e3
    obtain ⟨t5, l5⟩ := l2.putL e4 (r4.append (.one r2))
    exact ⟨p, vs, u, rfl, rfl, e4, by rw [r4.length]; exact hz, q _ _ .non _ ((t1.trans t2).trans t5) .non l5 k2⟩)
theorem ae_pop (h : AE X o ρ A fun x A1 => ∃ p ds d, x = .ref p ∧ A1 p = some (.lst (ds ++ [d])) ∧ k d (aupd A1 p (.lst ds)))
    (hbase : attributeBase o "pop" X.env (eval o X.env) = eval o X.env := by rfl) (hline : (apos.endLine == cpos.line) = true := by rfl) : AE X (.Call (.Attribute o "pop" apos) [] [] cpos) ρ A k := fun σ H s Q q =>
  tm_of (pe_bm0 PySem.F.plainAttrs_list PySem.F.slot_list_pop PySem.F.type_list_pop mt_pop (pe_tm o) hbase hline) (h σ H s _ fun v H1 x A1 t1 r1 l1 ⟨p, ds, d, e1, e0, h1⟩ => by
    subst e1
    rw [r1.ref_of]
    obtain ⟨vs, e2, r2⟩ := l1.lst e0
    have hl : vs.length = ds.length + 1 := by rw [r2.length]; simp
    obtain ⟨v, g1, g2⟩ := r2.get (i := ds.length) (d := d) (by simp)
    have rd := r2.dropLast
    rw [List.dropLast_concat] at rd
    obtain ⟨t5, l5⟩ := l1.putL (A := A1) e2 rd
    exact ⟨tyL e2, p, vs, v, rfl, rfl, e2, by rw [hl]; exact g1, q _ _ _ _ (t1.trans t5) (g2.mono t5) l5 h1⟩)

/-! ### slices -/
def cutD (xs : List D) (lo hi : Option Int) : List D := (xs.drop (HT.sIx xs.length 0 lo)).take (HT.sIx xs.length xs.length hi - HT.sIx xs.length 0 lo)
theorem Rps.cut {K : Frag} {H : Hp} {vs : List V} (r : Rps K H vs ds) (lo hi : Option Int) : Rps K H (cutV vs lo hi) (cutD ds lo hi) := by
  unfold cutV cutD
  rw [r.length]
  exact (r.drop _).take _
/-- a part of a slice -/
def AO' (X : Cx) (e : Option Expr) (ρ : Ro) (A : AH) (o : Option Int) : Prop := match e, o with
  | none, none => True
  | some e, some i => AV X e ρ A (.int i)
  | _, _ => False
def tmO (X : Cx) : Option Expr → TO
  | none => tNoPart
  | some e => tPart (TM X e)
theorem po_tm (e : Option Expr) : PO X e (tmO X e) := match e with
  | none => po_none
  | some e => po_some (pe_tm e)
theorem AO'.run {e : Option Expr} {o : Option Int} (h : AO' X e ρ A o) {σ : L2.St} {H : Hp} (s : Sr X.K ρ A σ H) {Q : Option Int → Hp → Prop} (q : ∀ H', TS H H' → Rel X.K A H' → Q o H') : tmO X e σ H Q := by
  cases e with
  | none => cases o with
    | none => exact q H (TS.refl H) s.hp
    | some i => exact h.elim
  | some e => cases o with
    | none => exact h.elim
    | some i => exact h σ H s _ fun v H' t r l => ⟨i, r.int_of, q H' t l⟩
theorem al_slL {lo hi : Option Expr} {lo' hi' : Option Int} {p2 : Pos} (h : AV X e ρ A x) (hl : IsL A x ds) (hlo : AO' X lo ρ A lo') (hhi : AO' X hi ρ A hi') : AL X (.Subscript e (.Slice lo hi none p2) pos) ρ A (cutD ds lo' hi') := fun k q σ H s Q qq =>
  tm_of (pe_slice sl_list (pe_tm e) (po_tm lo) (po_tm hi)) (h σ H s _ fun v H1 t1 r1 l1 => by
    refine hlo.run (s.mono t1 l1) fun H2 t2 l2 => hhi.run ((s.mono t1 l1).mono t2 l2) fun H3 t3 l3 => ?_
    obtain ⟨p, vs, rfl, g1, g2⟩ := hl.sq ((r1.mono t2).mono t3) l3
    exact ⟨p, vs, rfl, g1, fun z hz => qq _ _ _ _ (((t1.trans t2).trans t3).trans (TS.new hz)) (.ref z) (l3.newL hz (g2.cut lo' hi')).2 (q z (l3.none hz))⟩)
end
end C7
namespace C7
open PySem PySem.Spec PyProof.Rows L2

/-! ### sizes -/
theorem bt_log {i : Int} {n : Nat} (h : i.natAbs < 2 ^ n) (h0 : 0 < n) : i.natAbs.log2 < n := PySem.Flt.log2_lt_of h0 h
theorem bt_mul {i j : Int} {a b : Nat} (ha : i.natAbs < 2 ^ a) (hb : j.natAbs < 2 ^ b) : (i * j).natAbs < 2 ^ (a + b) := wide_lt ha hb
theorem bt_add {i j : Int} {a b : Nat} (ha : i.natAbs < 2 ^ a) (hb : j.natAbs < 2 ^ b) : (i + j).natAbs < 2 ^ (max a b + 1) := by
  have h1 : 2 ^ a ≤ 2 ^ max a b := Nat.pow_le_pow_right (by decide) (Nat.le_max_left _ _)
  have h2 : 2 ^ b ≤ 2 ^ max a b := Nat.pow_le_pow_right (by decide) (Nat.le_max_right _ _)
  have h3 := Int.natAbs_add_le i j
  rw [Nat.pow_succ]
  omega
theorem bt_le {i : Int} {a b : Nat} (ha : i.natAbs < 2 ^ a) (h : a ≤ b) : i.natAbs < 2 ^ b := Nat.lt_of_lt_of_le ha (Nat.pow_le_pow_right (by decide) h)
theorem mulx {i j : Int} {a b : Nat} (ha : i.natAbs < 2 ^ a) (hb : j.natAbs < 2 ^ b) (h : a + b ≤ 134217728) : CMulX i j := mulx_ok ha hb h
theorem divw {i j : Int} {b : Nat} (h : 0 < j) (hb : j.natAbs < 2 ^ b) (h0 : 0 < b) (h9 : b ≤ 9000) : CDivW i j := wide_div h hb h0 h9
theorem divp {i j : Int} (h : 0 < j) (hb : j.natAbs < 2 ^ 9000) : CDivP i j := ⟨h, PyProof.noPylong_of_log2 (bt_log hb (by decide))⟩

/-! ### shares: the rational numbers -/
def sh (q : Rat) : D := .tup [.int q.num, .int (q.den : Int)]
structure Sz (m : Nat) (q : Rat) : Prop where
  n : q.num.natAbs < 2 ^ m
  d : q.den < 2 ^ m
theorem Sz.up {m n : Nat} {q : Rat} (h : Sz m q) (l : m ≤ n) : Sz n q :=
  ⟨Nat.lt_of_lt_of_le h.n (Nat.pow_le_pow_right (by decide) l), Nat.lt_of_lt_of_le h.d (Nat.pow_le_pow_right (by decide) l)⟩
theorem rat_eq (q : Rat) : q = (q.num : Rat) / (q.den : Rat) := by
  have h := Rat.num_divInt_den q
  rw [Rat.divInt_eq_div] at h
  exact h.symm.trans (by push_cast; rfl)
theorem den_pos (q : Rat) : (0 : Int) < (q.den : Int) := by have := q.den_pos; omega
theorem num_mul {q : Rat} {N D : Int} (hD : D ≠ 0) (h : q = (N : Rat) / (D : Rat)) : q.num * D = N * q.den := by
  have hq := rat_eq q
  have h1 : (q.den : Rat) ≠ 0 := by
    have := q.den_pos
    exact_mod_cast (show (q.den : Int) ≠ 0 by omega)
  have h2 : (D : Rat) ≠ 0 := by exact_mod_cast hD
  have h3 : (q.num : Rat) * D = N * q.den := by
    have : (q.num : Rat) / q.den = N / D := hq.symm.trans h
    grind
  exact_mod_cast h3
theorem sz_div {q : Rat} {N D : Int} {m : Nat} (hD : D ≠ 0) (h : q = (N : Rat) / (D : Rat)) (hN : N.natAbs < 2 ^ m) (hDm : D.natAbs < 2 ^ m) : Sz m q := by
  have e := num_mul hD h
  have cop := q.reduced
  have d1 : q.den ∣ D.natAbs := by
    have : q.den ∣ q.num.natAbs * D.natAbs := by
      rw [← Int.natAbs_mul, e, Int.natAbs_mul]
      exact Nat.dvd_mul_left _ _
    exact Nat.Coprime.dvd_of_dvd_mul_left cop.symm this
  have hDp : 0 < D.natAbs := by omega
  have l1 := Nat.le_of_dvd hDp d1
  refine ⟨?_, by omega⟩
  by_cases hN0 : N = 0
  · subst hN0
    rw [Int.zero_mul] at e
    have z : q.num = 0 := by
      rcases Int.mul_eq_zero.mp e with z | z
      · exact z
      · exact absurd z hD
    rw [z]
    exact Nat.pow_pos (by decide)
  · have d2 : q.num.natAbs ∣ N.natAbs := by
      have : q.num.natAbs ∣ N.natAbs * q.den := by
        have e' : N.natAbs * q.den = (N * (q.den : Int)).natAbs := by rw [Int.natAbs_mul]; rfl
        rw [e', ← e, Int.natAbs_mul]
        exact Nat.dvd_mul_right _ _
      exact Nat.Coprime.dvd_of_dvd_mul_right cop this
    have l2 := Nat.le_of_dvd (by omega) d2
    omega
theorem Sz.num {m : Nat} {q : Rat} (h : Sz m q) : q.num.natAbs < 2 ^ m := h.n
theorem Sz.den {m : Nat} {q : Rat} (h : Sz m q) : ((q.den : Int)).natAbs < 2 ^ m := by rw [Int.natAbs_natCast]; exact h.d
theorem den_ne (q : Rat) : (q.den : Rat) ≠ 0 := by
  have := q.den_pos
  exact_mod_cast (show (q.den : Int) ≠ 0 by omega)
theorem sz_mul {m n : Nat} {p q : Rat} (hp : Sz m p) (hq : Sz n q) : Sz (m + n) (p * q) := by
  have h1 := rat_eq p
  have h2 := rat_eq q
  have h3 := den_ne p
  have h4 := den_ne q
  refine sz_div (N := p.num * q.num) (D := (p.den : Int) * q.den) (by have := den_pos p; have := den_pos q; exact Int.ne_of_gt (Int.mul_pos ‹_› ‹_›)) ?_ ?_ ?_
  · have e1 : ((p.num * q.num : Int) : Rat) = (p.num : Rat) * (q.num : Rat) := by push_cast; rfl
    have e2 : (((p.den : Int) * q.den : Int) : Rat) = (p.den : Rat) * (q.den : Rat) := by push_cast; rfl
    rw [e1, e2]
    grind
  · exact bt_mul hp.num hq.num
  · exact bt_mul hp.den hq.den
/-- a pair in lowest terms is its own share -/
theorem num_den {q : Rat} {a b : Int} (hb : 0 < b) (hc : a.natAbs.gcd b.natAbs = 1) (h : q = (a : Rat) / (b : Rat)) : q.num = a ∧ (q.den : Int) = b := by
  have e := num_mul (show b ≠ 0 by omega) h
  have d1 : q.den ∣ b.natAbs := by
    have : q.den ∣ q.num.natAbs * b.natAbs := by
      rw [← Int.natAbs_mul, e, Int.natAbs_mul]
      exact Nat.dvd_mul_left _ _
    exact Nat.Coprime.dvd_of_dvd_mul_left q.reduced.symm this
  have d2 : b.natAbs ∣ q.den := by
    have : b.natAbs ∣ a.natAbs * q.den := by
      have e' : a.natAbs * q.den = (a * (q.den : Int)).natAbs := by rw [Int.natAbs_mul]; rfl
      rw [e', ← e, Int.natAbs_mul]
      exact Nat.dvd_mul_left _ _
    exact Nat.Coprime.dvd_of_dvd_mul_left (Nat.Coprime.symm hc) this
  have e3 : q.den = b.natAbs := Nat.dvd_antisymm d1 d2
  have e4 : (q.den : Int) = b := by omega
  refine ⟨?_, e4⟩
  rw [e4] at e
  exact Int.eq_of_mul_eq_mul_right (by omega) e
theorem share_eq {t b : Int} (hb : 0 < b) : D.tup [.int (t / (Nat.gcd t.natAbs b.natAbs : Nat)), .int (b / (Nat.gcd t.natAbs b.natAbs : Nat))] = sh ((t : Rat) / (b : Rat)) := by
  have hbn : 0 < b.natAbs := by omega
  have hg : 0 < Nat.gcd t.natAbs b.natAbs := Nat.gcd_pos_of_pos_right _ hbn
  have hg' : (0 : Int) < (Nat.gcd t.natAbs b.natAbs : Nat) := by omega
  have d1 : ((Nat.gcd t.natAbs b.natAbs : Nat) : Int) ∣ t := Int.ofNat_dvd_left.mpr (Nat.gcd_dvd_left _ _)
  have d2 : ((Nat.gcd t.natAbs b.natAbs : Nat) : Int) ∣ b := Int.ofNat_dvd_left.mpr (Nat.gcd_dvd_right _ _)
  have e1 := Int.ediv_mul_cancel d1
  have e2 := Int.ediv_mul_cancel d2
  have n1 : (t / (Nat.gcd t.natAbs b.natAbs : Nat)).natAbs = t.natAbs / Nat.gcd t.natAbs b.natAbs := by
    rw [Int.natAbs_ediv_of_dvd d1]; rfl
  have n2 : (b / (Nat.gcd t.natAbs b.natAbs : Nat)).natAbs = b.natAbs / Nat.gcd t.natAbs b.natAbs := by
    rw [Int.natAbs_ediv_of_dvd d2]; rfl
  have hpos : 0 < b / (Nat.gcd t.natAbs b.natAbs : Nat) := Int.ediv_pos_of_pos_of_dvd hb (by omega) d2
  have hq : (t : Rat) / (b : Rat) = ((t / (Nat.gcd t.natAbs b.natAbs : Nat) : Int) : Rat) / ((b / (Nat.gcd t.natAbs b.natAbs : Nat) : Int) : Rat) := by
    generalize hG : ((Nat.gcd t.natAbs b.natAbs : Nat) : Int) = g at e1 e2 hpos hg'
    have c1 : (((t / g : Int)) : Rat) * (g : Rat) = (t : Rat) := by exact_mod_cast e1
    have c2 : (((b / g : Int)) : Rat) * (g : Rat) = (b : Rat) := by exact_mod_cast e2
    have z1 : (g : Rat) ≠ 0 := by exact_mod_cast (show g ≠ 0 by omega)
    have z2 : ((b / g : Int) : Rat) ≠ 0 := by exact_mod_cast (show b / g ≠ 0 by omega)
    rw [← c1, ← c2]
    grind
  have hc : (t / (Nat.gcd t.natAbs b.natAbs : Nat)).natAbs.gcd (b / (Nat.gcd t.natAbs b.natAbs : Nat)).natAbs = 1 := by
    rw [n1, n2]
    exact Nat.gcd_div_gcd_div_gcd_of_pos_right hbn
  obtain ⟨h1, h2⟩ := num_den hpos hc hq
  unfold sh
  rw [h1, h2]
end C7
namespace C7
open PySem PySem.Spec PyProof.Rows L2 HotX

/-! ### a list's end, and any(..), while an exception is handled -/
section
variable {prog : Program} {w : World} {A : Around} {E : Value → Shared → Prop} {s : Shared}
end
section
variable {X : Cx}
end

/-! ### try: body, except x as n: suite -/
section
variable {X : Cx} {W : WX} {ρ : Ro} {A : AH} {E : AEnds} {x n : Str} {c : Value} {i : Nat} {body suite : List Stmt} {b₀ : Stmt} {np pos pos' : Pos}
/-- what is wanted of an exception of the body -/
def TryX (X : Cx) (c : Value) (i : Nat) (suite : List Stmt) (E : AEnds) : Value → Ro → AH → Prop := fun cls ρ' A' =>
  ∃ b, PySem.W.exmOne X.K cls c = some b ∧ (b = true → ∀ (a : Addr) (oe : Obj) (pn : List (Addr × Obj)), A' a = none → L2N.Zn cls none oe → (∃ vs, oe.data = .fields vs) →
    AS (X.suite a ((a, oe) :: pn)) (fun _ _ _ _ => False) suite (ρ'.set i (some (.ref a))) A' { nx := fun ρ2 A2 => E.nx (ρ2.set i none) A2, rt := E.rt, bk := fun ρ2 A2 => E.bk (ρ2.set i none) A2, ct := fun ρ2 A2 => E.ct (ρ2.set i none) A2 }) ∧
    (b = false → E.xc cls ρ' A')
theorem a1_try (hs : X.stack = X.env :: X.outer) (hf : X.env.frame = some X.env.locals) (hN : X.N.Nodup) (hi : X.N[i]? = some n) (hln : X.env.kindOf n = some .local) (hc : Names X x c) (tk : L2N.Takes X W)
    (hb : ∀ (W' : WX) (pn : List (Addr × Obj)) (xe : Value → Shared → Prop), L2N.Takes (X.tr pn xe) W' → PassesOwn (model X.prog X.w) X.A X.env xe → AS (X.tr pn xe) W' body ρ A { E with xc := TryX X c i (b₀ :: suite) E }) :
    A1 X W (.Try body [.ExceptHandler (some (.Name x np)) (some n) (b₀ :: suite) pos'] [] [] pos) ρ A E := fun σ H s D q => by
  refine tm1_of (L2N.ps_try_as (c := c) (tb := fun W' D σ H => ∀ (pn : List (Addr × Obj)) (xe : Value → Shared → Prop), L2N.Takes (X.tr pn xe) W' → PassesOwn (model X.prog X.w) X.A X.env xe → TMs (X.tr pn xe) body D σ H)
    (ts := fun a cls d D σ H => ∀ (oe : Obj) (pn : List (Addr × Obj)), L2N.Zn cls d oe → (∃ vs, oe.data = .fields vs) → TMs (X.suite a ((a, oe) :: pn)) (b₀ :: suite) D σ H) hs hf hN hi hln hc tk
    (fun W' pn xe t p => ⟨fun pins s1 σ1 H1 D1 I1 h1 => (h1 pn xe t p).go pins s1 I1⟩) (fun a oe cls d pn z f => ⟨fun pins s1 σ1 H1 D1 I1 h1 => (h1 oe pn z f).go pins s1 I1⟩)) ?_
  intro pn xe t p
  refine hb _ pn xe t p σ H s D ⟨q.nx, q.rt, q.bk, q.ct, ?_⟩
  intro cls ρ' A' σ' H' t' s' ⟨b, e1, h1, h2⟩
  refine ⟨b, e1, fun hb' a ha oe pn z f => ?_, fun hb' => q.xc cls ρ' A' σ' H' t' s' (h2 hb')⟩
  refine h1 hb' a oe pn (s'.hp.none ha) z f _ H' (s'.set i (.ref a)) _ ⟨?_, ?_, ?_, ?_, ?_⟩
  · intro ρ2 A2 σ2 H2 t2 s2 k2
    exact q.nx _ A2 _ H2 (t'.trans t2) (s2.unset i) k2
  · intro d A2 v H2 t2 l2 r2 k2
    exact q.rt d A2 v H2 (t'.trans t2) l2 r2 k2
  · intro ρ2 A2 σ2 H2 t2 s2 k2
    exact q.bk _ A2 _ H2 (t'.trans t2) (s2.unset i) k2
  · intro ρ2 A2 σ2 H2 t2 s2 k2
    exact q.ct _ A2 _ H2 (t'.trans t2) (s2.unset i) k2
  · intro _ _ _ _ _ _ _ z
    exact z.elim
end

/-! ### isinstance of the caught error -/
section
variable {X : Cx} {ρ : Ro} {A : AH} {e a b : Expr} {pos p0 : Pos} {k : AK} {D0 p : Addr} {oe : Obj} {pn : List (Addr × Obj)}
theorem av_isE {c : D} {cv : Value} {bb : Bool} (C : ExcC X.K D0) (hz : L2N.Zn (.ref D0) none oe) (hf : ∃ vs, oe.data = .fields vs) (hg : Gl X "isinstance") (hm : X.mg "isinstance" = none)
    (ha : AVs (X.suite p ((p, oe) :: pn)) [a, b] ρ A [.ref p, c]) (hc : ∀ H v, Rp X.K H v c → ∀ u, RelV v u → u = cv) (hk : PySem.W.kitOne X.K (.ref D0) cv = some bb)
    (hs : starEach [a, b] X.env = (false, eval a X.env) :: starEach [b] X.env := by rfl) (hpl : (backTo pos (starEach [b] X.env)).any (·.1) = false := by rfl) :
    AV (X.suite p ((p, oe) :: pn)) (.Call (.Name "isinstance" p0) [a, b] [] pos) ρ A (.bl bb) :=
  av_callB (call_isE C hz.zc hf) hg hm (by decide +kernel) ha (fun vs H r l Q q => by
    obtain ⟨v, v', rfl, r1, r2⟩ := rps2 r
    rw [r1.ref_of]
    exact ⟨v', cv, bb, rfl, hc H v' r2, hk, q _ H (TS.refl H) (.bl _) l⟩) (he := hs) (hpl := hpl)
end
end C7
namespace C7
open PySem PySem.Spec PyProof.Rows L2
theorem atI_map {α : Type} {f : α → D} {xs : List α} {k : Nat} {x : α} (h : xs[k]? = some x) : atI (xs.map f) (k : Int) = some (f x) := atI_nat (by rw [List.getElem?_map, h]; rfl)
theorem atN {ns : List Int} (k : Nat) (h : k < ns.length) : atI (ns.map D.int) (k : Int) = some (.int (ns.getD k 0)) := by
  refine atI_map ?_
  rw [List.getD_eq_getElem?_getD, List.getElem?_eq_getElem h]
  rfl
theorem atZ {ns : List Int} {i : Int} (h0 : 0 ≤ i) (h : i < ns.length) : atI (ns.map D.int) i = some (.int (ns.getD i.toNat 0)) := by
  obtain ⟨k, rfl⟩ := Int.eq_ofNat_of_zero_le h0
  exact atN k (by omega)
theorem bt_small {i : Int} (n : Nat) (h0 : -(2 ^ n) < i) (h1 : i < 2 ^ n) : i.natAbs < 2 ^ n := by
  have e : ((2 : Int) ^ n) = ((2 ^ n : Nat) : Int) := by rw [Int.natCast_pow]; rfl
  rw [e] at h0 h1
  omega
theorem cpow {i j : Int} (h0 : 0 ≤ j) (h1 : j ≤ 1000000) (h2 : i.natAbs < 2 ^ 64) : CPow i j := ⟨h0, h1, h2⟩
def cellM (ns : List Int) (k : Int) : Int := ns.getD k.toNat 0
end C7
namespace C7
open PySem PySem.Spec PyProof.Rows L2
theorem bo_ValueError : bootBuiltins "ValueError" = some (.type "ValueError") := by decide +kernel
theorem bo_str : bootBuiltins "str" = some (.type "str") := by decide +kernel
theorem kt_str_str : kitB "str" "str" = some true := by decide +kernel
theorem kt_int_str : kitB "int" "str" = some false := by decide +kernel
theorem kt_bool_str : kitB "bool" "str" = some false := by decide +kernel
theorem kt_NoneType_str : kitB "NoneType" "str" = some false := by decide +kernel
theorem kt_list_str : kitB "list" "str" = some false := by decide +kernel
theorem kt_tuple_str : kitB "tuple" "str" = some false := by decide +kernel
theorem gcd_step {a b : Int} (ha : 0 ≤ a) (hb : 0 < b) : Nat.gcd b.natAbs (a % b).natAbs = Nat.gcd a.natAbs b.natAbs := by
  rw [Int.natAbs_emod_of_nonneg ha, Nat.gcd_comm a.natAbs, Nat.gcd_rec b.natAbs a.natAbs, Nat.gcd_comm]
theorem gcd_zero {x : Int} (hx : 0 ≤ x) : ((Nat.gcd x.natAbs (0 : Int).natAbs : Nat) : Int) = x := by
  show ((Nat.gcd x.natAbs 0 : Nat) : Int) = x
  rw [Nat.gcd_zero_right]
  omega
theorem neg_div_neg (t b : Int) : (((0 - t : Int)) : Rat) / ((0 - b : Int) : Rat) = (t : Rat) / (b : Rat) := by
  have e1 : ((0 - t : Int) : Rat) = - (t : Rat) := by push_cast; grind
  have e2 : ((0 - b : Int) : Rat) = - (b : Rat) := by push_cast; grind
  rw [e1, e2]
  by_cases h : (b : Rat) = 0
  · rw [h]; grind
  · grind
theorem add_eq (p q : Rat) : ((p.num * (q.den : Int) + q.num * (p.den : Int) : Int) : Rat) / (((p.den : Int) * (q.den : Int) : Int) : Rat) = p + q := by
  have h1 := rat_eq p
  have h2 := rat_eq q
  have h3 := den_ne p
  have h4 := den_ne q
  have e1 : ((p.num * (q.den : Int) + q.num * (p.den : Int) : Int) : Rat) = (p.num : Rat) * (q.den : Rat) + q.num * (p.den : Rat) := by push_cast; rfl
  have e2 : (((p.den : Int) * (q.den : Int) : Int) : Rat) = (p.den : Rat) * (q.den : Rat) := by push_cast; rfl
  rw [e1, e2]
  grind
theorem mul_eq (p q : Rat) : ((p.num * q.num : Int) : Rat) / (((p.den : Int) * (q.den : Int) : Int) : Rat) = p * q := by
  have h1 := rat_eq p
  have h2 := rat_eq q
  have h3 := den_ne p
  have h4 := den_ne q
  have e1 : ((p.num * q.num : Int) : Rat) = (p.num : Rat) * (q.num : Rat) := by push_cast; rfl
  have e2 : (((p.den : Int) * (q.den : Int) : Int) : Rat) = (p.den : Rat) * (q.den : Rat) := by push_cast; rfl
  rw [e1, e2]
  grind
theorem den2 (p q : Rat) : (p.den : Int) * (q.den : Int) ≠ 0 := by have := den_pos p; have := den_pos q; exact Int.ne_of_gt (Int.mul_pos ‹_› ‹_›)
/-- an own class as a value -/
theorem av_cls {X : Cx} {ρ : Ro} {A : AH} {x : Str} {C : Addr} {pos : Pos} (e : ExcF X.K X.mg x C) (hg : Gl X x) (hd : (x == ("__debug__" : Str)) = false := by decide) : AV X (.Name x pos) ρ A (.ref C) :=
  av_glob hg e.g (v := .ref C) rfl (fun _ => .ref C) hd
theorem cls_of {K : Frag} {C : Addr} : ∀ H v, Rp K H v (.ref C) → ∀ u, RelV v u → u = .ref C := fun H v r u h => by
  rw [r.ref_of] at h; exact h
theorem ty_of {K : Frag} {U : String} : ∀ H v, Rp K H v (.ty U) → ∀ u, RelV v u → u = .type U := fun H v r u h => by
  rw [r.ty_of] at h; exact h
end C7
namespace C7
open PySem PySem.Spec PyProof.Rows L2

/-! ### == of data -/
mutual
inductive Py (A : AH) : D → PyData → Prop
  | non : Py A .non .none
  | bl (b : Bool) : Py A (.bl b) (.bool b)
  | int (i : Int) : Py A (.int i) (.int i)
  | str (x : Str) : Py A (.str x) (.str x)
  | tup {ds : List D} {ps : List PyData} : Pys A ds ps → Py A (.tup ds) (.tuple ps)
  | lst {d : D} {ds : List D} {ps : List PyData} : IsL A d ds → Pys A ds ps → Py A d (.list ps)
inductive Pys (A : AH) : List D → List PyData → Prop
  | nil : Pys A [] []
  | cons {d : D} {ds : List D} {p : PyData} {ps : List PyData} : Py A d p → Pys A ds ps → Pys A (d :: ds) (p :: ps)
end
mutual
theorem Py.dp {A : AH} {K : Frag} {H : Hp} (l : Rel K A H) : ∀ {d : D} {p : PyData} {v : V}, Py A d p → Rp K H v d → Dp K H v p
  | _, _, _, .non, r => by rw [r.non_of]; exact .non
  | _, _, _, .bl b, r => by rw [r.bl_of]; exact .bl b
  | _, _, _, .int i, r => by rw [r.int_of]; exact .int i
  | _, _, _, .str x, r => by rw [r.str_of]; exact .str x
  | _, _, _, .tup h, r => by
    obtain ⟨a, vs, rfl, h1, h2⟩ := r.tup_of
    exact .tup h1 (Pys.dp l h h2)
  | _, _, _, .lst hl h, r => by
    obtain ⟨a, vs, rfl, h1, h2⟩ := hl.sq r l
    exact .lst h1 (Pys.dp l h h2)
theorem Pys.dp {A : AH} {K : Frag} {H : Hp} (l : Rel K A H) : ∀ {ds : List D} {ps : List PyData} {vs : List V}, Pys A ds ps → Rps K H vs ds → DpAll K H vs ps
  | _, _, _, .nil, r => by cases r; exact .nil
  | _, _, _, .cons h hs, r => by
    cases r with
    | cons r1 r2 => exact .cons (Py.dp l h r1) (Pys.dp l hs r2)
end
/-- a kind of data that == tells apart -/
structure Enc (α : Type) [DecidableEq α] where
  d : α → D
  p : α → PyData
  py : ∀ A x, Py A (d x) (p x)
  lay : ∀ x, (p x).canLay0 = true
  dep : ∀ x, (p x).depth ≤ 20
  eqv : ∀ x y, PyData.eqv (p x) (p y) = decide (x = y)
def eI : Enc Int where
  d := .int
  p := .int
  py := fun _ i => .int i
  lay := fun _ => rfl
  dep := fun _ => Nat.zero_le _
  eqv := fun x y => by
    show (x == y) = decide (x = y)
    rw [Bool.eq_iff_iff]; simp
def eB : Enc Bool where
  d := .bl
  p := .bool
  py := fun _ i => .bl i
  lay := fun _ => rfl
  dep := fun _ => Nat.zero_le _
  eqv := fun x y => by
    show (x == y) = decide (x = y)
    rw [Bool.eq_iff_iff]; simp
theorem depthAll_le {α : Type} [DecidableEq α] (e : Enc α) : ∀ xs : List α, PyData.depthAll (xs.map e.p) ≤ 20
  | [] => Nat.zero_le _
  | x :: xs => by
    rw [List.map_cons, PyData.depthAll]
    exact Nat.max_le.mpr ⟨e.dep x, depthAll_le e xs⟩
theorem layAll {α : Type} [DecidableEq α] (e : Enc α) : ∀ xs : List α, PyData.canLayAll0 (xs.map e.p) = true
  | [] => rfl
  | x :: xs => by
    rw [List.map_cons, PyData.canLayAll0, e.lay x, layAll e xs]
    rfl
theorem eqvAll {α : Type} [DecidableEq α] (e : Enc α) : ∀ xs ys : List α, PyData.eqvAll (xs.map e.p) (ys.map e.p) = decide (xs = ys)
  | [], [] => rfl
  | [], _ :: _ => rfl
  | _ :: _, [] => rfl
  | x :: xs, y :: ys => by
    rw [List.map_cons, List.map_cons, PyData.eqvAll, e.eqv, eqvAll e xs ys, Bool.eq_iff_iff]
    simp
theorem pysAll {α : Type} [DecidableEq α] (e : Enc α) (A : AH) : ∀ xs : List α, Pys A (xs.map e.d) (xs.map e.p)
  | [] => .nil
  | x :: xs => .cons (e.py A x) (pysAll e A xs)
/-- a tuple of two -/
def eT {α β : Type} [DecidableEq α] [DecidableEq β] (e : Enc α) (f : Enc β) (he : ∀ x, (e.p x).depth ≤ 10) (hf : ∀ x, (f.p x).depth ≤ 10) : Enc (α × β) where
  d := fun x => .tup [e.d x.1, f.d x.2]
  p := fun x => .tuple [e.p x.1, f.p x.2]
  py := fun A x => .tup (.cons (e.py A _) (.cons (f.py A _) .nil))
  lay := fun x => by
    show PyData.canLayAll0 [e.p x.1, f.p x.2] = true
    rw [PyData.canLayAll0, PyData.canLayAll0, PyData.canLayAll0, e.lay, f.lay]
    rfl
  dep := fun x => by
    show PyData.depthAll [e.p x.1, f.p x.2] + 1 ≤ 20
    rw [PyData.depthAll, PyData.depthAll, PyData.depthAll]
    have := he x.1
    have := hf x.2
    omega
  eqv := fun x y => by
    show PyData.eqvAll [e.p x.1, f.p x.2] [e.p y.1, f.p y.2] = _
    rw [PyData.eqvAll, PyData.eqvAll, PyData.eqvAll, e.eqv, f.eqv, Bool.eq_iff_iff]
    simp [Prod.ext_iff]
theorem rat_ext {p q : Rat} (h1 : p.num = q.num) (h2 : p.den = q.den) : p = q := by
  rw [rat_eq p, rat_eq q, h1, h2]
def eR : Enc Rat where
  d := sh
  p := fun q => .tuple [.int q.num, .int (q.den : Int)]
  py := fun A q => .tup (.cons (.int _) (.cons (.int _) .nil))
  lay := fun _ => rfl
  dep := fun _ => by
    show PyData.depthAll [.int _, .int _] + 1 ≤ 20
    simp [PyData.depthAll, PyData.depth]
  eqv := fun x y => by
    show PyData.eqvAll [.int x.num, .int x.den] [.int y.num, .int y.den] = _
    rw [PyData.eqvAll, PyData.eqvAll, PyData.eqvAll]
    show ((x.num == y.num) && (((x.den : Int) == (y.den : Int)) && true)) = _
    rw [Bool.eq_iff_iff]
    simp only [Bool.and_eq_true, beq_iff_eq, decide_eq_true_eq, and_true]
    constructor
    · rintro ⟨a, b⟩; exact rat_ext a (by omega)
    · rintro rfl; exact ⟨rfl, rfl⟩
/-- a point -/
abbrev Pt := Rat × Rat
def pt (p : Pt) : D := .tup [sh p.1, sh p.2]
theorem dep_eR (q : Rat) : (eR.p q).depth ≤ 10 := by
  show PyData.depthAll [.int _, .int _] + 1 ≤ 10
  simp [PyData.depthAll, PyData.depth]
def eP : Enc Pt := eT eR eR dep_eR dep_eR
section
variable {X : Cx} {ρ : Ro} {A : AH} {a b : Expr} {pos : Pos} {d d' : D} {p p' : PyData} {lv : Nat}
theorem shp {p : PyData} (h1 : p.canLay0 = true) (h2 : p.depth ≤ 64) : SeqAt.shaped p = true := by
  unfold SeqAt.shaped
  rw [h1, decide_eq_true h2]
  rfl
theorem aet_neP {kt : Bool → AH → Prop} (hr : Room lv X.A) (h : AE X a ρ A fun x A1 => AE X b ρ A1 fun y A2 => ∃ p p', Py A2 x p ∧ Py A2 y p' ∧ SeqAt.shaped p = true ∧ SeqAt.shaped p' = true ∧ kt (!PyData.eqv p p') A2) : AET X (.Compare a [.NotEq] [b] pos) ρ A kt :=
  aet_cmp (op_neD hr.units) (nomark _) (h.mono fun x A1 h1 => h1.mono fun y A2 ⟨p, p', h2, h3, s, s', k2⟩ v u H r1 r2 l Q q => ⟨p, p', h2.dp l r1, h3.dp l r2, s, s', q _ H A2 (TS.refl H) l k2⟩)
theorem ae_cmpE {op : CmpOp} {r : R2} {k : AK} (ho : OpR X (compareOp op) r) (hm : behindInMarks op b = false)
    (h : AE X a ρ A fun x A1 => AE X b ρ A1 fun y A2 => ∀ v u H, Rp X.K H v x → Rp X.K H u y → Rel X.K A2 H → ∀ Q : VK, (∀ z H' d A', TS H H' → Rp X.K H' z d → Rel X.K A' H' → k d A' → Q z H') → r v u H Q) : AE X (.Compare a [op] [b] pos) ρ A k :=
  fun σ H s Q q => tm_of (pe_cmpR ho (pe_tm a) (pe_tm b) hm) (h σ H s _ fun v H1 x A1 t1 r1 l1 h1 => h1 σ H1 (s.mono t1 l1) _ fun u H2 y A2 t2 r2 l2 h2 =>
    h2 v u H2 (r1.mono t2) r2 l2 Q fun z H' d A' t3 r3 l3 q3 => q z H' d A' ((t1.trans t2).trans t3) r3 l3 q3)
section
variable {α : Type} [DecidableEq α] (e : Enc α) {x y : α}
theorem at_neE (hr : Room lv X.A) (ha : AV X a ρ A (e.d x)) (hb : AV X b ρ A (e.d y)) : AT X (.Compare a [.NotEq] [b] pos) ρ A (!decide (x = y)) := by
  rw [← e.eqv]
  exact AET.at' (aet_neP hr (ha.ae (hb.ae ⟨_, _, e.py A x, e.py A y, shp (e.lay x) (Nat.le_trans (e.dep x) (by decide)), shp (e.lay y) (Nat.le_trans (e.dep y) (by decide)), rfl, Ext.refl _⟩)))
theorem shpL (xs : List α) : SeqAt.shaped (.list (xs.map e.p)) = true := shp (layAll e xs) (by
  show PyData.depthAll (xs.map e.p) + 1 ≤ 64
  have := depthAll_le e xs
  omega)
theorem eqvL (xs ys : List α) : PyData.eqv (.list (xs.map e.p)) (.list (ys.map e.p)) = decide (xs = ys) := eqvAll e xs ys
theorem pyL {d : D} {xs : List α} (h : IsL A d (xs.map e.d)) : Py A d (.list (xs.map e.p)) := .lst h (pysAll e A xs)
variable {xs ys : List α}
end
end
end C7
namespace C7
open PySem PySem.Spec PyProof.Rows L2
/-! ### the law's own fractions -/
abbrev Fq := Int × Int
structure Fz (m : Nat) (f : Fq) : Prop where
  b1 : f.1.natAbs < 2 ^ m
  b2 : f.2.natAbs < 2 ^ m
  nz : f.2 ≠ 0
theorem tup_pt (a b : Rat) : D.tup [sh a, sh b] = pt (a, b) := rfl
theorem tup_0 : D.tup [.int 0, .int 1] = sh 0 := rfl
def SzP (m : Nat) (p : Pt) : Prop := Sz m p.1 ∧ Sz m p.2
theorem SzP.up {m n : Nat} {p : Pt} (h : SzP m p) (e : m ≤ n) : SzP n p := ⟨h.1.up e, h.2.up e⟩
end C7
namespace C7
open PySem PySem.Spec PyProof.Rows L2
/-! ### shares over one bottom -/
def Ov (B : Int) (m : Nat) (q : Rat) : Prop := ∃ N : Int, q = (N : Rat) / (B : Rat) ∧ N.natAbs < 2 ^ m
def OvP (B : Int) (m : Nat) (p : Pt) : Prop := Ov B m p.1 ∧ Ov B m p.2
theorem ov_sz {B : Int} {m : Nat} {q : Rat} (hB : B ≠ 0) (hb : B.natAbs < 2 ^ m) (h : Ov B m q) : Sz m q := by
  obtain ⟨N, e, hN⟩ := h
  exact sz_div hB e hN hb
theorem ovp_sz {B : Int} {m : Nat} {p : Pt} (hB : B ≠ 0) (hb : B.natAbs < 2 ^ m) (h : OvP B m p) : SzP m p := ⟨ov_sz hB hb h.1, ov_sz hB hb h.2⟩
theorem Ov.up {B : Int} {m n : Nat} {q : Rat} (h : Ov B m q) (e : m ≤ n) : Ov B n q := by
  obtain ⟨N, e', hN⟩ := h
  exact ⟨N, e', bt_le hN e⟩
theorem OvP.up {B : Int} {m n : Nat} {q : Pt} (h : OvP B m q) (e : m ≤ n) : OvP B n q := ⟨h.1.up e, h.2.up e⟩

/-! ### lists by place -/
theorem atG {α : Type} {f : α → D} (d0 : α) {xs : List α} {i : Int} (h0 : 0 ≤ i) (h : i < xs.length) : atI (xs.map f) i = some (f (xs.getD i.toNat d0)) := by
  obtain ⟨k, rfl⟩ := Int.eq_ofNat_of_zero_le h0
  refine atI_map ?_
  rw [List.getD_eq_getElem?_getD, List.getElem?_eq_getElem (show k < xs.length by omega)]
  simp
  rw [List.getElem?_eq_getElem (show k < xs.length by omega)]
  rfl
/-- a point of a row -/
def gp (row : List Pt) (k : Nat) : Pt := row.getD k (0, 0)
theorem gp_mem {row : List Pt} {k : Nat} (h : k < row.length) : gp row k ∈ row := by
  unfold gp
  rw [List.getD_eq_getElem?_getD, List.getElem?_eq_getElem h]
  exact List.getElem_mem h

/-! ### a list of lists on the heap -/
structure Rws (A : AH) (ps : List Addr) (r : Addr) (A' : AH) (rs : List (List Pt)) : Prop where
  ext : Ext A A'
  len : ps.length = rs.length
  nd : (r :: ps).Nodup
  new : ∀ p ∈ r :: ps, A p = none
  row : ∀ (i : Nat) (p : Addr) (w : List Pt), ps[i]? = some p → rs[i]? = some w → A' p = some (.lst (w.map pt))
  top : A' r = some (.lst (ps.map .ref))
theorem getD_in {α : Type} {xs : List α} {k : Nat} {d0 : α} {P : α → Prop} (h : ∀ x ∈ xs, P x) (hk : k < xs.length) : P (xs.getD k d0) := by
  rw [List.getD_eq_getElem?_getD, List.getElem?_eq_getElem hk]
  exact h _ (List.getElem_mem hk)
theorem shI (x : Int) : D.tup [.int x, .int 1] = sh (x : Rat) := rfl
theorem sz_int {x : Int} {m : Nat} (h : x.natAbs < 2 ^ m) (h0 : 0 < m) : Sz m (x : Rat) := ⟨h, Nat.one_lt_two_pow (by omega)⟩
/-- constants of the top: a tuple of two whole numbers, of two such tuples -/
theorem kTup2 {K : Frag} {c : Addr} {o : Obj} {i j : Int} {t1 t2 : Tok} {n : Nat} (l : List.lookup c K = some o) (hc : o.cls = .type "tuple") (hd : o.data = .seq #[.int i t1, .int j t2] n) (H : Hp) : Rp K H (.ref c) (.tup [.int i, .int j]) :=
  .tup (vs := [.int i, .int j]) (.inr ⟨o, _, n, l, hc, hd, Nat.le_of_ble_eq_true rfl, .cons ⟨t1, rfl⟩ (.cons ⟨t2, rfl⟩ .nil)⟩) (.cons (.int i) (.cons (.int j) .nil))
theorem kTupP {K : Frag} {c a b : Addr} {o : Obj} {d e : D} {n : Nat} (l : List.lookup c K = some o) (hc : o.cls = .type "tuple") (hd : o.data = .seq #[.ref a, .ref b] n) (h1 : ∀ H, Rp K H (.ref a) d) (h2 : ∀ H, Rp K H (.ref b) e) (H : Hp) : Rp K H (.ref c) (.tup [d, e]) :=
  .tup (vs := [.ref a, .ref b]) (.inr ⟨o, _, n, l, hc, hd, Nat.le_of_ble_eq_true rfl, .cons rfl (.cons rfl .nil)⟩) (.cons (h1 H) (.cons (h2 H) .nil))
section
variable {X : Cx} {ρ : Ro} {A : AH} {a b : Expr} {pos : Pos} {d : D} {lv : Nat} {α : Type} [DecidableEq α] (e : Enc α) {xs ys : List α}
end
end C7
namespace C7
open PySem PySem.Spec PyProof.Rows L2
/-! ### a op b op c -/
section
variable {X : Cx} {ρ : Ro} {A : AH} {a b c : Expr} {pos : Pos} {i j l : Int}
theorem at_ch {op op' : CmpOp} {r r' : R2} {g g' : Int → Int → Bool} (ho : OpR X (compareOp op) r) (ho' : OpR X (compareOp op') r') (e : r = rI0 fun i j => .bl (g i j)) (e' : r' = rI0 fun i j => .bl (g' i j)) (ha : AV X a ρ A (.int i)) (hb : AV X b ρ A (.int j)) (hc : AV X c ρ A (.int l))
    (hm : lastMarks [op, op'] [b, c] = false := by with_unfolding_all rfl) : AT X (.Compare a [op, op'] [b, c] pos) ρ A (g i j && g' j l) := fun σ H s Q q =>
  tmt_of (pt_chain ho ho' (pe_tm a) (pe_tm b) (pe_tm c) hm) (ha σ H s _ fun v H1 t1 r1 l1 => hb σ H1 (s.mono t1 l1) _ fun u H2 t2 r2 l2 => cmpI e v u H2 (r1.mono t2) r2 l2 _ fun H3 t3 l3 => ⟨g i j, rfl, by
    cases hg : g i j with
    | false => rw [if_neg (by decide)]; rw [hg] at q; exact ⟨false, rfl, q H3 ((t1.trans t2).trans t3) l3⟩
    | true =>
      rw [if_pos rfl]
      rw [hg] at q
      exact hc σ H3 (s.mono ((t1.trans t2).trans t3) l3) _ fun z H4 t4 r4 l4 => cmpI e' u z H4 ((r2.mono t3).mono t4) r4 l4 _ fun H5 t5 l5 => ⟨g' j l, rfl, q H5 ((((t1.trans t2).trans t3).trans t4).trans t5) l5⟩⟩)
theorem at_lele (ha : AV X a ρ A (.int i)) (hb : AV X b ρ A (.int j)) (hc : AV X c ρ A (.int l)) (hm : lastMarks [.LtE, .LtE] [b, c] = false := by with_unfolding_all rfl) : AT X (.Compare a [.LtE, .LtE] [b, c] pos) ρ A (decide (i ≤ j) && decide (j ≤ l)) :=
  at_ch (g := fun i j => decide (i ≤ j)) (g' := fun i j => decide (i ≤ j)) op_le op_le rfl rfl ha hb hc hm
end
/-! ### sums and weights -/
def sumN (f : Nat → Rat) : Nat → Rat
  | 0 => 0
  | n + 1 => sumN f n + f n
theorem sumN_first (f : Nat → Rat) (n : Nat) : sumN f (n + 1) = f 0 + sumN (fun k => f (k + 1)) n := by
  induction n with
  | zero => show 0 + f 0 = f 0 + 0; grind
  | succ n ih => show sumN f (n + 1) + f (n + 1) = f 0 + (sumN (fun k => f (k + 1)) n + f (n + 1)); rw [ih]; grind
theorem sumN_add (f g : Nat → Rat) (n : Nat) : sumN (fun k => f k + g k) n = sumN f n + sumN g n := by
  induction n with
  | zero => show (0 : Rat) = 0 + 0; grind
  | succ n ih => show sumN _ n + (f n + g n) = sumN f n + f n + (sumN g n + g n); rw [ih]; grind
theorem sumN_mul (c : Rat) (f : Nat → Rat) (n : Nat) : sumN (fun k => c * f k) n = c * sumN f n := by
  induction n with
  | zero => show (0 : Rat) = c * 0; grind
  | succ n ih => show sumN _ n + c * f n = c * (sumN f n + f n); rw [ih]; grind
theorem sumN_congr {f g : Nat → Rat} {n : Nat} (h : ∀ k, k < n → f k = g k) : sumN f n = sumN g n := by
  induction n with
  | zero => rfl
  | succ n ih => show sumN f n + f n = sumN g n + g n; rw [ih (fun k hk => h k (by omega)), h n (by omega)]
/-- how many ways there are to choose -/
def ch : Nat → Nat → Nat
  | _, 0 => 1
  | 0, _ + 1 => 0
  | n + 1, k + 1 => ch n k + ch n (k + 1)
theorem ch_zero (n : Nat) : ch n 0 = 1 := by cases n <;> rfl
theorem ch_over : ∀ {n k : Nat}, n < k → ch n k = 0 := by
  intro n
  induction n with
  | zero => intro k h; match k, h with | k + 1, _ => rfl
  | succ n ih =>
    intro k h
    match k, h with
    | k + 1, h => show ch n k + ch n (k + 1) = 0; rw [ih (by omega), ih (by omega)]
theorem ch_step : ∀ n k : Nat, (ch n k : Int) * ((n : Int) - k) = ch n (k + 1) * ((k : Int) + 1) := by
  intro n
  induction n with
  | zero =>
    intro k
    match k with
    | 0 => rfl
    | k + 1 => show ((0 : Nat) : Int) * _ = ((0 : Nat) : Int) * _; simp
  | succ n ih =>
    intro k
    match k with
    | 0 =>
      show ((1 : Nat) : Int) * _ = ((ch n 0 + ch n 1 : Nat) : Int) * _
      have h0 := ih 0
      rw [ch_zero] at h0
      rw [ch_zero]
      push_cast at h0 ⊢
      grind
    | k + 1 =>
      show ((ch n k + ch n (k + 1) : Nat) : Int) * _ = ((ch n (k + 1) + ch n (k + 1 + 1) : Nat) : Int) * _
      have h0 := ih k
      have h1 := ih (k + 1)
      push_cast at h0 h1 ⊢
      grind
theorem ch_le : ∀ n k : Nat, ch n k ≤ 2 ^ n := by
  intro n
  induction n with
  | zero => intro k; match k with | 0 => decide | k + 1 => exact Nat.zero_le _
  | succ n ih =>
    intro k
    match k with
    | 0 => exact Nat.one_le_two_pow
    | k + 1 => show ch n k + ch n (k + 1) ≤ _; have := ih k; have := ih (k + 1); rw [Nat.pow_succ]; omega
/-- what ways() reckons -/
theorem ch_div (n k : Nat) : (ch n k : Int) * ((n : Int) - k) / ((k : Int) + 1) = ch n (k + 1) := by
  rw [ch_step]
  exact Int.mul_ediv_cancel _ (by omega)
end C7
namespace C7
open PySem PySem.Spec PyProof.Rows L2
/-! ### lists that are written no more: data by value -/
mutual
inductive Fr (A0 A : AH) : D → D → Prop
  | same (d : D) : Fr A0 A d d
  | lst {p : Addr} {ds vs : List D} : A0 p = none → A p = some (.lst ds) → Frs A0 A ds vs → Fr A0 A (.ref p) (.fz vs)
  | tup {ds vs : List D} : Frs A0 A ds vs → Fr A0 A (.tup ds) (.tup vs)
inductive Frs (A0 A : AH) : List D → List D → Prop
  | nil : Frs A0 A [] []
  | cons {d v : D} {ds vs : List D} : Fr A0 A d v → Frs A0 A ds vs → Frs A0 A (d :: ds) (v :: vs)
end
theorem Frs.refl {A0 A : AH} : ∀ ds : List D, Frs A0 A ds ds
  | [] => .nil
  | d :: ds => .cons (.same d) (Frs.refl ds)
/-- some of the new lists are locked by now -/
def RelF (K : Frag) (A0 A : AH) (H : Hp) : Prop := ∀ a o, A a = some o → (∃ u, H a = some u ∧ RelA K H o u) ∨ (A0 a = none ∧ ∃ ds vs ob, o = .lst ds ∧ H a = some (.frz ob (.lst vs)) ∧ Rps K H vs ds)
theorem RelF.put {K : Frag} {A0 A : AH} {H : Hp} (r : RelF K A0 A H) {p : Addr} {ds : List D} {vs : List V} {ob : Obj} (h0 : A0 p = none) (hA : A p = some (.lst ds)) (hp : H p = some (.lst vs)) (hr : Rps K H vs ds) :
    TS H (upd H p (.frz ob (.lst vs))) ∧ RelF K A0 A (upd H p (.frz ob (.lst vs))) := by
  have t : TS H (upd H p (.frz ob (.lst vs))) := TS.put hp (fun _ z => nomatch z) (fun _ _ z => nomatch z)
  refine ⟨t, fun a o q => ?_⟩
  by_cases e : a = p
  · subst e
    rw [hA] at q
    cases q
    exact .inr ⟨h0, ds, vs, ob, rfl, upd_same, hr.mono t⟩
  · rcases r a o q with ⟨u, e1, e2⟩ | ⟨e0, ds', vs', ob', e1, e2, e3⟩
    · exact .inl ⟨u, by rw [upd_ne e]; exact e1, e2.mono t⟩
    · exact .inr ⟨e0, ds', vs', ob', e1, by rw [upd_ne e]; exact e2, e3.mono t⟩
section
variable {X : Cx} {A0 A : AH} {pins : List (Addr × Obj)} {σ : L2.St} {s : Shared}
mutual
theorem Fr.go : ∀ {d v : D}, Fr A0 A d v → ∀ H, Inv X pins σ H s → RelF X.K A0 A H → ∃ H1, Inv X pins σ H1 s ∧ TS H H1 ∧ RelF X.K A0 A H1 ∧ ∀ H2, TS H1 H2 → ∀ x, Rp X.K H2 x d → Rp X.K H2 x v
  | _, _, .same d => fun H I r => ⟨H, I, TS.refl H, r, fun _ _ _ q => q⟩
  | _, _, .tup hs => fun H I r => by
    obtain ⟨H1, I1, t1, r1, q1⟩ := Frs.go hs H I r
    refine ⟨H1, I1, t1, r1, fun H2 t2 x q => ?_⟩
    obtain ⟨a, vs, rfl, h1, h2⟩ := q.tup_of
    exact .tup h1 (q1 H2 t2 vs h2)
  | _, _, .lst (p := p) h0 hA hs => fun H I r => by
    obtain ⟨H1, I1, t1, r1, q1⟩ := Frs.go hs H I r
    rcases r1 p _ hA with ⟨u, e1, vs, e2, e3⟩ | ⟨_, ds', vs, ob, e0, e1, e2⟩
    · subst e2
      obtain ⟨od, I2⟩ := I1.lock e1 trivial
      obtain ⟨t2, r2⟩ := r1.put (ob := od) h0 hA e1 e3
      refine ⟨_, I2, t1.trans t2, r2, fun H3 t3 x q => ?_⟩
      rw [q.ref_of]
      exact .fz (t3.z _ _ _ upd_same fun _ z => nomatch z) (q1 H3 (t2.trans t3) vs ((e3.mono t2).mono t3))
    · cases e0
      refine ⟨H1, I1, t1, r1, fun H3 t3 x q => ?_⟩
      rw [q.ref_of]
      exact .fz (t3.z _ _ _ e1 fun _ z => nomatch z) (q1 H3 t3 vs (e2.mono t3))
theorem Frs.go : ∀ {ds vs : List D}, Frs A0 A ds vs → ∀ H, Inv X pins σ H s → RelF X.K A0 A H → ∃ H1, Inv X pins σ H1 s ∧ TS H H1 ∧ RelF X.K A0 A H1 ∧ ∀ H2, TS H1 H2 → ∀ xs, Rps X.K H2 xs ds → Rps X.K H2 xs vs
  | _, _, .nil => fun H I r => ⟨H, I, TS.refl H, r, fun _ _ _ q => q⟩
  | _, _, .cons h hs => fun H I r => by
    obtain ⟨H1, I1, t1, r1, q1⟩ := Fr.go h H I r
    obtain ⟨H2, I2, t2, r2, q2⟩ := Frs.go hs H1 I1 r1
    refine ⟨H2, I2, t1.trans t2, r2, fun H3 t3 xs q => ?_⟩
    cases q with
    | cons a b => exact .cons (q1 H3 (t2.trans t3) _ a) (q2 H3 t3 _ b)
end
theorem Fr.lock {d v : D} {H : Hp} (f : Fr A0 A d v) (x : Ext A0 A) (I : Inv X pins σ H s) (r : Rel X.K A H) : ∃ H1, Inv X pins σ H1 s ∧ TS H H1 ∧ Rel X.K A0 H1 ∧ ∀ H2, TS H1 H2 → ∀ y, Rp X.K H2 y d → Rp X.K H2 y v := by
  obtain ⟨H1, I1, t1, r1, q1⟩ := f.go H I (fun a o q => .inl (r a o q))
  refine ⟨H1, I1, t1, fun a o q => ?_, q1⟩
  rcases r1 a o (x a o q) with h | ⟨h, _⟩
  · exact h
  · rw [q] at h; cases h
end
section
variable {X : Cx} {W : WX} {ρ : Ro} {A A0 : AH} {e a b c : Expr} {es : List Expr} {pos p0 : Pos} {d x y v : D} {k : AK} {ds : List D} {sts rest : List Stmt} {E : AEnds}
/-- what a value has of new lists is locked -/
theorem AE.frz (h : AE X e ρ A fun d A' => ∃ A0 v, Ext A0 A' ∧ Fr A0 A' d v ∧ k v A0) : AE X e ρ A k := fun σ H s Q q => ⟨fun pins st I =>
  thn ((h σ H s (fun v0 H' => ∃ d A' A0 v, TS H H' ∧ Rp X.K H' v0 d ∧ Rel X.K A' H' ∧ Ext A0 A' ∧ Fr A0 A' d v ∧ k v A0) (fun v0 H' d A' t r l ⟨A0, v, h1, h2, h3⟩ => ⟨d, A', A0, v, t, r, l, h1, h2, h3⟩)).go pins st I) fun u s' hu => by
    obtain ⟨v0, H', I', rv, d, A', A0, v, t, r, l, h1, h2, h3⟩ := hu
    obtain ⟨H1, I1, t1, r1, q1⟩ := h2.lock h1 I' l
    exact ⟨v0, H1, I1, rv, q v0 H1 v A0 (t.trans t1) (q1 H1 (TS.refl H1) _ (r.mono t1)) r1 h3⟩⟩
theorem AE.fz (h : AE X e ρ A fun d A' => ∃ A0 p vs ds, d = .ref p ∧ A0 p = none ∧ Ext A0 A' ∧ A' p = some (.lst ds) ∧ Frs A0 A' ds vs ∧ k (.fz vs) A0) : AE X e ρ A k :=
  AE.frz (h.mono fun d A' ⟨A0, p, vs, ds, e, h0, x, hA, hs, hk⟩ => ⟨A0, .fz vs, x, by rw [e]; exact .lst h0 hA hs, hk⟩)
theorem AL.av (h : AL X e ρ A ds) : AV X e ρ A (.fz ds) := AE.av (AE.fz (h.ae fun p hp => ⟨A, p, ds, ds, rfl, hp, Ext.new hp, aupd_same, Frs.refl ds, rfl, Ext.refl A⟩))
/-- a local's new lists are locked, ahead of what follows -/
theorem as_frz (i : Nat) (hd : ρ[i]? = some (some d)) (x : Ext A0 A) (f : Fr A0 A d v) (h : AS X W sts (ρ.set i (some v)) A0 E) : AS X W sts ρ A E := fun σ H s D q => ⟨fun pins st I => by
  obtain ⟨H1, I1, t1, r1, q1⟩ := f.lock x I s.hp
  refine (h σ H1 ⟨?_, fun j d' e => ?_, r1⟩ D (q.mono t1)).go pins st I1
  · rw [List.length_set]; exact s.len
  · by_cases hj : j = i
    · subst hj
      have hl : j < ρ.length := by
        rcases Nat.lt_or_ge j ρ.length with z | z
        · exact z
        · rw [List.getElem?_eq_none z] at hd; cases hd
      rw [List.getElem?_set_self hl] at e
      cases e
      obtain ⟨w, e1, e2⟩ := s.val j d hd
      exact ⟨w, e1, q1 H1 (TS.refl H1) _ (e2.mono t1)⟩
    · rw [List.getElem?_set_ne (Ne.symm hj)] at e
      obtain ⟨w, e1, e2⟩ := s.val j d' e
      exact ⟨w, e1, e2.mono t1⟩⟩
/-- .. one list -/
theorem as_fz (i : Nat) {p : Addr} (hd : ρ[i]? = some (some (.ref p))) (h0 : A p = none) (h : AS X W sts (ρ.set i (some (.fz ds))) A E) : AS X W sts ρ (aupd A p (.lst ds)) E :=
  as_frz i hd (Ext.new h0) (.lst h0 aupd_same (Frs.refl ds)) h

/-! ### names for what is stored -/
section
variable {β : Type} {f : β → D} {z : β} {i : Nat} {n : Str} {pos' : Pos}
theorem as_setv (hN : X.N.Nodup) (hi : X.N[i]? = some n) (hx : Loc X.env.scope n) (h : AV X e ρ A (f z)) (q : ∀ y, y = z → AS X W rest (ρ.set i (some (f y))) A E) (hs : swapsWith e (some (.Name n pos')) pos.line X.env = pure false := by rfl)
    (hf : X.fn n = true ∨ X.env.scope.names.lookup n = some .local := by first | exact .inl rfl | exact .inr rfl | assumption) : AS X W (.Assign [.Name n pos'] e pos :: rest) ρ A E := as_set hN hi hx (h.ae (q z rfl)) hs hf
/-- if c: x = .. ; what is known of x behind it is Pv -/
theorem as_if1 {th el : List Stmt} {bb : Bool} (Pv : β → Prop) (i : Nat) (h : AT X c ρ A bb) (h1 : bb = true → AS X W th ρ A { E with nx := fun ρ' A' => ∃ y, Pv y ∧ ρ' = ρ.set i (some (f y)) ∧ A' = A })
    (h2 : bb = false → AS X W el ρ A { E with nx := fun ρ' A' => ∃ y, Pv y ∧ ρ' = ρ.set i (some (f y)) ∧ A' = A }) (hr : ∀ y, Pv y → AS X W rest (ρ.set i (some (f y))) A E) : AS X W (.If c th el pos :: rest) ρ A E :=
  as_ifm _ h h1 h2 fun ρ' A' ⟨y, hy, e1, e2⟩ => by subst e1 e2; exact hr y hy
end
/-! ### by value -/
abbrev fzs {β : Type} (f : β → D) (xs : List β) : D := .fz (xs.map f)
section
variable {β γ : Type} {f : β → D} {g : γ → D} {xs ys : List β} {zs : List γ} {i : Int}
theorem getD_mapF (d0 : β) {i : Nat} (h : i < xs.length) : (xs.map f).getD i .non = f (xs.getD i d0) := by
  rw [List.getD_eq_getElem?_getD, List.getD_eq_getElem?_getD, List.getElem?_map, List.getElem?_eq_getElem h]
  rfl
theorem av_ixN (d0 : β) {n : Nat} (ha : AV X a ρ A (.fz (xs.map f))) (hb : AV X b ρ A (.int i)) (e : i = (n : Int)) (h1 : n < xs.length) (hs : PlainIx b := by intro _ _; rfl) : AV X (.Subscript a b pos) ρ A (f (xs.getD n d0)) := by
  subst e
  exact av_ixL ha hb IsL.fz (atG d0 (Int.natCast_nonneg n) (by omega)) hs
/-- from the end -/
theorem av_ixB (d0 : β) {n : Nat} (ha : AV X a ρ A (.fz (xs.map f))) (hb : AV X b ρ A (.int i)) (e : i = -(n : Int)) (h0 : 0 < n) (h1 : n ≤ xs.length) (hs : PlainIx b := by intro _ _; rfl) : AV X (.Subscript a b pos) ρ A (f (xs.getD (xs.length - n) d0)) := by
  refine av_ixL ha hb IsL.fz ?_ hs
  unfold atI
  have e' : ixN (xs.map f).length i = some (xs.length - n) := by
    rw [List.length_map]
    unfold ixN
    rw [if_neg (by omega), if_pos (by omega)]
    congr 1
    omega
  rw [e']
  show (xs.map f)[xs.length - n]? = _
  rw [List.getElem?_map, List.getD_eq_getElem?_getD, List.getElem?_eq_getElem (show xs.length - n < xs.length by omega)]
  rfl
theorem av_lenD (hg : Gl X "len") (hm : X.mg "len" = none) (h : AV X a ρ A x) (hl : IsL A x (xs.map f)) (hs : starEach [a] X.env = [(false, eval a X.env)] := by rfl) : AV X (.Call (.Name "len" p0) [a] [] pos) ρ A (.int (xs.length : Nat)) := by
  have := av_lenL (pos := pos) (p0 := p0) hg hm h hl hs
  rw [List.length_map] at this
  exact this
theorem av_lst (h : AVs X es ρ A ds) (hl : ds.length ≤ sizeLine := by first | decide | exact Nat.le_of_ble_eq_true rfl) : AV X (.List es pos) ρ A (.fz ds) := (al_lst h hl).av
/-- slices -/
def cutL {β : Type} (xs : List β) (lo hi : Option Int) : List β := (xs.drop (HT.sIx xs.length 0 lo)).take (HT.sIx xs.length xs.length hi - HT.sIx xs.length 0 lo)
theorem cutD_map (lo hi : Option Int) : cutD (xs.map f) lo hi = (cutL xs lo hi).map f := by
  unfold cutD cutL
  rw [List.length_map, List.map_take, List.map_drop]
theorem av_slF {lo hi : Option Expr} {lo' hi' : Option Int} {p2 : Pos} (h : AV X e ρ A x) (hl : IsL A x (xs.map f)) (hlo : AO' X lo ρ A lo') (hhi : AO' X hi ρ A hi') : AV X (.Subscript e (.Slice lo hi none p2) pos) ρ A (.fz ((cutL xs lo' hi').map f)) := by
  have := (al_slL (pos := pos) (p2 := p2) h hl hlo hhi).av
  rw [cutD_map] at this
  exact this
theorem cutL_drop {β : Type} (xs : List β) (n : Nat) : cutL xs (some (n : Int)) none = xs.drop n := by
  unfold cutL
  rw [HT.sIx_none, HT.sIx_nat]
  rcases Nat.le_total n xs.length with h | h
  · rw [Nat.min_eq_left h, List.take_of_length_le (by rw [List.length_drop]; omega)]
  · rw [Nat.min_eq_right h, List.drop_eq_nil_of_le h, List.drop_eq_nil_of_le (Nat.le_refl _)]; simp
/-- xs + ys, whatever they are -/
def rCatR : R2 := fun x y H Q => ∃ l b xs zs, x = .ref l ∧ y = .ref b ∧ Rd H l (.lst xs) ∧ Rd H b (.lst zs) ∧ xs.length + zs.length ≤ sizeLine ∧ ∀ p, H p = none → Q (.ref p) (upd H p (.lst (xs ++ zs)))
theorem op_catR : OpR X (binaryOp .Add) rCatR := by
  intro pins s σ H x y v u Q I rx ry h
  obtain ⟨l, b, xs, zs, rfl, rfl, hH, hB, hz, q⟩ := h
  cases rx
  cases ry
  obtain ⟨z, its, n, r, e⟩ := hH.ok I.hok
  obtain ⟨z2, its2, n2, r2, e2⟩ := hB.ok I.hok
  have hl := r.length
  have hl2 := r2.length
  refine PySem.P.add_list e e2 ?_ (by rw [List.size_toArray, List.size_toArray]; omega)
  have ea : its.toArray ++ its2.toArray = (its ++ its2).toArray := by simp
  rw [ea]
  exact ⟨.ref _, _, I.lnew (t' := s.toks) (r.append r2) (by rw [List.length_append]; omega), rfl, q _ I.fresh⟩
inductive IsM (A : AH) : D → List D → Prop
  | ref {p : Addr} {ds : List D} (h : A p = some (.lst ds)) : IsM A (.ref p) ds
  | fz (ds : List D) : IsM A (.fz ds) ds
theorem IsM.rd {K : Frag} {A : AH} {H : Hp} {d : D} {ds : List D} {v : V} (l : IsM A d ds) (rv : Rp K H v d) (r : Rel K A H) : ∃ a vs, v = .ref a ∧ Rd H a (.lst vs) ∧ Rps K H vs ds := by
  cases l with
  | ref h =>
    obtain ⟨vs, e, q⟩ := r.lst h
    exact ⟨_, vs, rv.ref_of, .inl e, q⟩
  | fz =>
    obtain ⟨a, o, vs, rfl, h1, h2⟩ := rv.fz_of
    exact ⟨a, vs, rfl, .inr ⟨o, h1⟩, h2⟩
theorem ae_catR (h : AE X a ρ A fun x A1 => AE X b ρ A1 fun y A2 => ∃ xs ys, IsM A2 x xs ∧ IsM A2 y ys ∧ xs.length + ys.length ≤ sizeLine ∧ ∀ z, A2 z = none → k (.ref z) (aupd A2 z (.lst (xs ++ ys)))) : AE X (.BinOp a .Add b pos) ρ A k :=
  ae_op op_catR (h.mono fun x A1 h1 => h1.mono fun y A2 ⟨xs, ys, h2, h3, hz, hk⟩ v u H r1 r2 l Q qq => by
    obtain ⟨p, vs, rfl, g1, g2⟩ := h2.rd r1 l
    obtain ⟨q, ws, rfl, g3, g4⟩ := h3.rd r2 l
    exact ⟨p, q, vs, ws, rfl, rfl, g1, g3, by rw [g2.length, g4.length]; exact hz, fun z hz => qq _ _ _ _ (TS.new hz) (.ref z) (l.newL hz (g2.append g4)).2 (hk z (l.none hz))⟩)
theorem av_cat (ha : AV X a ρ A x) (hb : AV X b ρ A y) (h1 : IsM A x (xs.map f)) (h2 : IsM A y (ys.map f)) (hz : xs.length + ys.length ≤ sizeLine) : AV X (.BinOp a .Add b pos) ρ A (.fz ((xs ++ ys).map f)) := by
  rw [List.map_append]
  exact AL.av fun k q => ae_catR (ha.ae (hb.ae ⟨_, _, h1, h2, by rw [List.length_map, List.length_map]; exact hz, q⟩))
/-! ### walks -/
variable {tg : Expr} {kI : AH → (AH → Prop) → Nat → (Nat → D) → Prop}
theorem Wk.to {K : Frag} {H0 : Hp} {J : It} {G G' : AH → Prop} {n : Nat} {f f' : Nat → D} (w : Wk K H0 J G n f) (h : ∀ i, i < n → f i = f' i) (hG : ∀ A, G' A → G A) : Wk K H0 J G' n f' :=
  ⟨fun i H A hi t r g => w.go i H A hi t r (hG A g), fun i H A x H' hi t r g y => by rw [← h i hi]; exact w.yl i H A x H' hi t r (hG A g) y, fun H A t r g => w.st H A t r (hG A g)⟩
theorem AI.to {iter : Expr} (h : AI X tg iter ρ A fun A1 G n f => ∃ G' f', (∀ i, i < n → f i = f' i) ∧ (∀ A, G' A → G A) ∧ kI A1 G' n f') : AI X tg iter ρ A kI := fun σ H s R q =>
  h σ H s R fun J H' A' G n f t l wk ⟨G', f', e, hG, h2⟩ => q J H' A' G' n f' t l (wk.to e hG) h2
theorem ai_F (d0 : β) (h : AV X a ρ A (.fz (xs.map f))) (q : kI A (fun _ => True) xs.length (fun i => f (xs.getD i d0))) : AI X tg a ρ A kI :=
  AI.to (ai_list (h.ae ⟨_, IsL.fz, fun _ => True, fun i => f (xs.getD i d0), fun i hi => getD_mapF d0 (by rw [List.length_map] at hi; exact hi), fun _ _ => IsL.fz, by rw [List.length_map]; exact q⟩))
/-- over a list that may be written, but not here -/
theorem ai_D (d0 : β) (h : AV X a ρ A x) (hl : IsL A x (xs.map f)) (q : kI A (fun A' => IsL A' x (xs.map f)) xs.length (fun i => f (xs.getD i d0))) : AI X tg a ρ A kI :=
  AI.to (ai_list (h.ae ⟨_, hl, _, fun i => f (xs.getD i d0), fun i hi => getD_mapF d0 (by rw [List.length_map] at hi; exact hi), fun _ z => z, by rw [List.length_map]; exact q⟩))
theorem ai_rng {j : Int} (hg : Gl X "range") (hm : X.mg "range" = none) (h : AV X a ρ A (.int j)) (h1 : -(2 ^ 62) ≤ j) (h2 : j < 2 ^ 62) (q : kI A (fun _ => True) j.toNat (fun i => .int (i : Int))) (hs : starEach [a] X.env = [(false, eval a X.env)] := by rfl) :
    AI X tg (.Call (.Name "range" p0) [a] [] pos) ρ A kI :=
  ai_range1 hg hm (h.ae ⟨j, rfl, h1, h2, by
    have e : (fun i : Nat => D.int (0 + (i : Int))) = fun i : Nat => D.int (i : Int) := by
      funext i
      rw [Int.zero_add]
    rw [e]
    exact q⟩) hs
/-! ### comprehensions, by value -/
variable {iter elt : Expr} {is : List Nat} {scope : Scope} {own : List (Str × Nat)} {F : Nat → β} {n : Nat}
theorem ac_F (hsub : ∀ i ∈ is, i ∈ own.map (·.2))
    (hi : AI X tg iter ρ A fun A1 G n' h => n' = n ∧ A1 = A ∧ n ≤ sizeLine ∧ (∀ A', Ext A1 A' → G A') ∧
      ∀ i, i < n → ∃ ρ2, ∀ (s : Shared) (H : Hp) (C : Addr) (cl : List (Str × Addr)) (fp : List Addr), AG (X.blk s H scope (compEnvC scope cl C X.env) fp) tg is (wipeR ρ (own.map (·.2))) (h i) ρ2 ∧ ∀ A', Ext A1 A' → AV (X.blk s H scope (compEnvC scope cl C X.env) fp) elt ρ2 A' (f (F i)))
    (q : ∀ p, A p = none → k (.ref p) (aupd A p (.lst (((List.range n).map F).map f)))) : AC X elt tg iter scope own ρ A k :=
  ac_lcP (g := fun i => f (F i)) hsub (fun σ H s R qq => hi σ H s R fun J H' A' G n h t l wk ⟨h1, h2, h3⟩ => qq J H' A' G n h t l wk ⟨h1, by rw [h2]; exact Ext.refl A, h3⟩) fun p hp => by
    have e := q p hp
    rw [List.map_map] at e
    exact e
theorem al_lcF (hc : X.calm = true) (hN : X.N.Nodup) (ok : BlkOk X.N X.env.scope scope own) (hsub : ∀ i ∈ is, i ∈ own.map (·.2))
    (hi : AI X tg iter ρ A fun A1 G n' h => n' = n ∧ A1 = A ∧ n ≤ sizeLine ∧ (∀ A', Ext A1 A' → G A') ∧
      ∀ i, i < n → ∃ ρ2, ∀ (s : Shared) (H : Hp) (C : Addr) (cl : List (Str × Addr)) (fp : List Addr), AG (X.blk s H scope (compEnvC scope cl C X.env) fp) tg is (wipeR ρ (own.map (·.2))) (h i) ρ2 ∧ ∀ A', Ext A1 A' → AV (X.blk s H scope (compEnvC scope cl C X.env) fp) elt ρ2 A' (f (F i)))
    (hs : ∀ x, foldedSetIterable iter X.env x = pure x := by intro _; rfl) : AL X (.ListComp elt [⟨tg, iter, [], 0⟩] scope pos) ρ A (((List.range n).map F).map f) := fun k q => (ac_F (is := is) (own := own) hsub hi q).ae hc hN ok hs
theorem av_lcF (hc : X.calm = true) (hN : X.N.Nodup) (ok : BlkOk X.N X.env.scope scope own) (hsub : ∀ i ∈ is, i ∈ own.map (·.2))
    (hi : AI X tg iter ρ A fun A1 G n' h => n' = n ∧ A1 = A ∧ n ≤ sizeLine ∧ (∀ A', Ext A1 A' → G A') ∧
      ∀ i, i < n → ∃ ρ2, ∀ (s : Shared) (H : Hp) (C : Addr) (cl : List (Str × Addr)) (fp : List Addr), AG (X.blk s H scope (compEnvC scope cl C X.env) fp) tg is (wipeR ρ (own.map (·.2))) (h i) ρ2 ∧ ∀ A', Ext A1 A' → AV (X.blk s H scope (compEnvC scope cl C X.env) fp) elt ρ2 A' (f (F i)))
    (hs : ∀ x, foldedSetIterable iter X.env x = pure x := by intro _; rfl) : AV X (.ListComp elt [⟨tg, iter, [], 0⟩] scope pos) ρ A (.fz (((List.range n).map F).map f)) := (al_lcF hc hN ok hsub hi hs).av
end
/-- the results of calls, locked -/
theorem fz_k {ds : List D} {k : AK} {q : Addr} (hq : A q = none) (h : k (.fz ds) A) : ∃ A0 v, Ext A0 (aupd A q (.lst ds)) ∧ Fr A0 (aupd A q (.lst ds)) (.ref q) v ∧ k v A0 := ⟨A, .fz ds, Ext.new hq, .lst hq aupd_same (Frs.refl ds), h⟩
end
/-! ### == -/
theorem map_range_get {α β : Type} (xs : List α) (d0 : α) (F : α → β) : (List.range xs.length).map (fun i => F (xs.getD i d0)) = xs.map F := by
  apply List.ext_getElem?
  intro i
  rw [List.getElem?_map, List.getElem?_map]
  by_cases hi : i < xs.length
  · rw [List.getElem?_range hi, List.getElem?_eq_getElem hi]
    show some (F (xs.getD i d0)) = _
    rw [List.getD_eq_getElem?_getD, List.getElem?_eq_getElem hi]
    rfl
  · rw [List.getElem?_eq_none (by simp; omega), List.getElem?_eq_none (by omega)]
    rfl
end C7
namespace C7
open PySem PySem.Spec PyProof.Rows L2
/-! ### how deep data are -/
def Dp {α : Type} [DecidableEq α] (e : Enc α) (n : Nat) : Prop := ∀ x, (e.p x).depth ≤ n
theorem Dp.up {α : Type} [DecidableEq α] {e : Enc α} {n : Nat} (h : Dp e n) (hn : n ≤ 10) : ∀ x, (e.p x).depth ≤ 10 := fun x => Nat.le_trans (h x) hn
theorem dn_eI : Dp eI 0 := fun _ => Nat.zero_le _
/-! ### argument lists: no star -/
def isStar : Expr → Bool
  | .Starred _ _ => true
  | _ => false
theorem star_cons {e : Expr} {es : List Expr} {env : Env} (h : isStar e = false) : starEach (e :: es) env = (false, eval e env) :: starEach es env := by
  cases e <;> first | rfl | cases h
section
variable {X : Cx} {ρ : Ro} {A : AH} {e : Expr} {es : List Expr} {d : D} {ds : List D}
theorem avs_c (h : AV X e ρ A d) (hr : AVs X es ρ A ds) (hs : isStar e = false := by rfl) : AVs X (e :: es) ρ A (d :: ds) := avs_cons h hr (star_cons hs)
end
section
variable {X : Cx} {W : WX} {ρ : Ro} {A A0 : AH} {e a b c : Expr} {es : List Expr} {pos p0 : Pos} {d x y v : D} {k : AK} {ds : List D} {sts rest : List Stmt} {E : AEnds}
variable {β γ : Type} {f : β → D} {g : γ → D} {xs ys : List β} {zs : List γ} {i : Int}
theorem av_ixD (d0 : β) (ha : AV X a ρ A x) (hl : IsL A x (xs.map f)) (hb : AV X b ρ A (.int i)) (h0 : 0 ≤ i) (h1 : i < xs.length) (hs : PlainIx b := by intro _ _; rfl) : AV X (.Subscript a b pos) ρ A (f (xs.getD i.toNat d0)) := av_ixL ha hb hl (atG d0 h0 h1) hs
theorem av_ixDN (d0 : β) {n : Nat} (ha : AV X a ρ A x) (hl : IsL A x (xs.map f)) (hb : AV X b ρ A (.int i)) (e : i = (n : Int)) (h1 : n < xs.length) (hs : PlainIx b := by intro _ _; rfl) : AV X (.Subscript a b pos) ρ A (f (xs.getD n d0)) := by
  subst e
  exact av_ixL ha hb hl (atG d0 (Int.natCast_nonneg n) (by omega)) hs
theorem av_ixDB (d0 : β) {n : Nat} (ha : AV X a ρ A x) (hl : IsL A x (xs.map f)) (hb : AV X b ρ A (.int i)) (e : i = -(n : Int)) (h0 : 0 < n) (h1 : n ≤ xs.length) (hs : PlainIx b := by intro _ _; rfl) : AV X (.Subscript a b pos) ρ A (f (xs.getD (xs.length - n) d0)) := by
  refine av_ixL ha hb hl ?_ hs
  unfold atI
  have e' : ixN (xs.map f).length i = some (xs.length - n) := by
    rw [List.length_map]
    unfold ixN
    rw [if_neg (by omega), if_pos (by omega)]
    congr 1
    omega
  rw [e']
  show (xs.map f)[xs.length - n]? = _
  rw [List.getElem?_map, List.getD_eq_getElem?_getD, List.getElem?_eq_getElem (show xs.length - n < xs.length by omega)]
  rfl
theorem av_mulS {i j : Int} (ha : AV X a ρ A (.int i)) (hb : AV X b ρ A (.int j)) (hc : CMul i j) : AV X (.BinOp a .Mult b pos) ρ A (.int (i * j)) := av_opI (g := fun i j => i * j) op_mul ha hb hc
variable {tg : Expr} {kI : AH → (AH → Prop) → Nat → (Nat → D) → Prop}
theorem ai_enumD (d0 : β) {elts : List Expr} {kk : Nat} {tpos : Pos} (hg : Gl X "enumerate") (hm : X.mg "enumerate" = none) (h : AV X a ρ A x) (hl : IsL A x (xs.map f)) (q : kI A (fun A' => IsL A' x (xs.map f)) xs.length (fun i => .tup [.int (i : Nat), f (xs.getD i d0)]))
    (hs : starEach [a] X.env = [(false, eval a X.env)] := by rfl) : AI X (.Tuple elts kk tpos) (.Call (.Name "enumerate" p0) [a] [] pos) ρ A kI :=
  AI.to (ai_enum hg hm (h.ae ⟨_, hl, _, fun i => .tup [.int (i : Nat), f (xs.getD i d0)], fun i hi => by dsimp only; rw [getD_mapF d0 (by rw [List.length_map] at hi; exact hi)], fun _ z => z, by rw [List.length_map]; exact q⟩) hs)
theorem ai_zipD (d0 : β) (e0 : γ) {elts : List Expr} {kk : Nat} {tpos : Pos} (hg : Gl X "zip") (hm : X.mg "zip" = none) (h : AVs X [a, b] ρ A [x, y]) (hl : IsL A x (xs.map f)) (hl' : IsL A y (zs.map g)) (q : kI A (fun A' => IsL A' x (xs.map f) ∧ IsL A' y (zs.map g)) (min xs.length zs.length) (fun i => .tup [f (xs.getD i d0), g (zs.getD i e0)]))
    (hs : starEach [a, b] X.env = (false, eval a X.env) :: starEach [b] X.env := by rfl) (hpl : (backTo pos (starEach [b] X.env)).any (·.1) = false := by rfl) : AI X (.Tuple elts kk tpos) (.Call (.Name "zip" p0) [a, b] [] pos) ρ A kI :=
  AI.to (ai_zip hg hm (h.aes ⟨_, _, _, _, rfl, hl, hl', _, fun i => .tup [f (xs.getD i d0), g (zs.getD i e0)], fun i hi => by
    rw [List.length_map, List.length_map] at hi
    dsimp only
    rw [getD_mapF d0 (by omega), getD_mapF e0 (by omega)], fun _ z => z, by rw [List.length_map, List.length_map]; exact q⟩) hs hpl)
/-- while: a number falls -/
theorem a1_whileN {body : List Stmt} (hp : PassesOwn (model X.prog X.w) X.A X.env X.xe) (Pv : Nat → Ro → AH → Prop) (h0 : ∃ n, Pv n ρ A)
    (hs : ∀ n ρ A, Pv n ρ A → AET X c ρ A fun bb A1 => (bb = true → AS X W body ρ A1 { E with nx := fun ρ' A' => ∃ m, m < n ∧ Pv m ρ' A', ct := fun ρ' A' => ∃ m, m < n ∧ Pv m ρ' A', bk := E.nx }) ∧ (bb = false → E.nx ρ A1)) : A1 X W (.While c body [] pos) ρ A E := fun σ H s D q =>
  tm1_of (ps_while hp (pt_tm c) (pss_tm body)) (by
    obtain ⟨n0, h0⟩ := h0
    refine ⟨fun m σ' H' => ∃ ρ' A', TS H H' ∧ Sr X.K ρ' A' σ' H' ∧ Pv m ρ' A', ⟨_, ρ, A, TS.refl H, s, h0⟩, ?_⟩
    rintro m σ1 H1 ⟨ρ1, A1, t1, s1, p1⟩
    refine hs m ρ1 A1 p1 σ1 H1 s1 _ fun bb H2 A2 t2 l2 kd => ?_
    cases bb with
    | true =>
      refine iteT ⟨fun σ' H' => ∃ ρ' A', TS H H' ∧ Sr X.K ρ' A' σ' H' ∧ ∃ m', m' < m ∧ Pv m' ρ' A', ?_, ?_⟩
      · rintro σ' H' ⟨ρ', A', t', s', m', lt, p'⟩
        exact ⟨m', lt, ρ', A', t', s', p'⟩
      · have t12 := t1.trans t2
        refine kd.1 rfl σ1 H2 (s1.mono t2 l2) _ ⟨fun ρ' A' σ' H' t' s' p' => ⟨ρ', A', t12.trans t', s', p'⟩, fun _ _ _ _ t' => q.rt _ _ _ _ (t12.trans t'), fun _ _ _ _ t' => q.nx _ _ _ _ (t12.trans t'), fun ρ' A' σ' H' t' s' p' => ⟨ρ', A', t12.trans t', s', p'⟩, fun _ _ _ _ _ t' => q.xc _ _ _ _ _ (t12.trans t')⟩
    | false => exact iteF (q.nx ρ1 A2 σ1 H2 (t1.trans t2) (s1.mono t2 l2) (kd.2 rfl)))
theorem AS.ro {ρ' : Ro} (h : AS X W sts ρ' A E) (q : ρ = ρ' := by rfl) : AS X W sts ρ A E := q ▸ h
/-! ### == of data that may be written -/
section
variable {α : Type} [DecidableEq α] (e : Enc α) {u w : α} {lv : Nat} {d' : D}
end
/-! ### heaps with lists that are written -/
theorem map_snoc {β : Type} (f : β → D) (xs : List β) (z : β) : xs.map f ++ [f z] = (xs ++ [z]).map f := by rw [List.map_append]; rfl
end
end C7
namespace C7
open PySem PySem.Spec PyProof.Rows L2
/-! ### going between, on sequences: polar points -/
def px (row : List Pt) (k : Nat) : Rat := (gp row k).1
def py (row : List Pt) (k : Nat) : Rat := (gp row k).2
/-! ### stretches -/
/-! ### sizes of rows -/
def Rw (m : Nat) (row : List Pt) : Prop := ∃ B : Int, B ≠ 0 ∧ B.natAbs < 2 ^ m ∧ ∀ p ∈ row, OvP B m p
theorem Rw.up {m n : Nat} {row : List Pt} (h : Rw m row) (e : m ≤ n) : Rw n row := by
  obtain ⟨B, h0, h1, h2⟩ := h
  exact ⟨B, h0, bt_le h1 e, fun p hp => (h2 p hp).up e⟩
theorem Rw.sz {m : Nat} {row : List Pt} (h : Rw m row) : ∀ p ∈ row, SzP m p := by
  obtain ⟨B, h0, h1, h2⟩ := h
  exact fun p hp => ovp_sz h0 h1 (h2 p hp)
def dens : List Rat → Int
  | [] => 1
  | t :: ts => (t.den : Int) * dens ts
theorem dens_ne : ∀ ts : List Rat, dens ts ≠ 0
  | [] => by decide
  | t :: ts => Int.mul_ne_zero (by have := den_pos t; omega) (dens_ne ts)
theorem dens_bt {n : Nat} : ∀ ts : List Rat, (∀ t ∈ ts, Sz n t) → (dens ts).natAbs < 2 ^ (ts.length * n + 1)
  | [], _ => by show (1 : Int).natAbs < 2 ^ (0 * n + 1); rw [Nat.zero_mul]; decide
  | t :: ts, h => by
    show ((t.den : Int) * dens ts).natAbs < _
    refine bt_le (bt_mul (h t (by simp)).den (dens_bt ts fun u hu => h u (by simp [hu]))) ?_
    rw [List.length_cons, Nat.succ_mul]
    omega
end C7
/-! ### list(reversed(x)) -/
namespace C7R
open PySem PySem.Spec PyProof.Rows L2 RT
section
variable {prog : Program} {w : World} {A : Around} {s : Shared} {R : Result → Shared → Prop}
end
section
variable {prog : Program} {w : World} {A : Around} {E : Value → Shared → Prop} {s : Shared}
end
end C7R

namespace C7
open PySem PySem.Spec PyProof.Rows L2
section
variable {X : Cx} {ρ : Ro} {A : AH} {a : Expr} {pos p0 p2 pos2 : Pos} {x : D} {k : AK} {β : Type} {f : β → D} {xs : List β}
end
end C7
namespace C7
open PySem PySem.Spec PyProof.Rows L2
/-! ### maps -/
structure Mp where
  a : Rat
  b : Rat
  c : Rat
  d : Rat
  e : Rat
  f : Rat
structure MpZ (n : Nat) (m : Mp) : Prop where
  a : Sz n m.a
  b : Sz n m.b
  c : Sz n m.c
  d : Sz n m.d
  e : Sz n m.e
  f : Sz n m.f
/-! ### sizes -/
theorem ov_dvd {q : Rat} {D : Int} {n k : Nat} (hz : Sz n q) (hd : (q.den : Int) ∣ D) (h0 : D ≠ 0) (hD : D.natAbs < 2 ^ k) : Ov D (n + k) q := by
  obtain ⟨r, hr⟩ := hd
  refine ⟨q.num * r, ?_, ?_⟩
  · have h1 := rat_eq q
    have h2 := den_ne q
    have hr0 : r ≠ 0 := fun z => h0 (by rw [hr, z, Int.mul_zero])
    have hr' : (r : Rat) ≠ 0 := fun z => hr0 (by exact_mod_cast z)
    have c1 : ((q.num * r : Int) : Rat) = (q.num : Rat) * r := by push_cast; rfl
    have c2 : (D : Rat) = (q.den : Rat) * r := by rw [hr]; push_cast; rfl
    rw [c1, c2]
    generalize (q.num : Rat) = x at *
    generalize (q.den : Rat) = y at *
    grind
  · refine bt_mul hz.num ?_
    have : r.natAbs ≤ D.natAbs := by
      rw [hr, Int.natAbs_mul]
      exact Nat.le_mul_of_pos_left _ (by have := den_pos q; omega)
    omega
theorem ov_mul {B C : Int} {m n : Nat} {p q : Rat} (h1 : Ov B m p) (h2 : Ov C n q) : Ov (B * C) (m + n) (p * q) := by
  obtain ⟨N, e, hN⟩ := h1
  obtain ⟨N', e', hN'⟩ := h2
  refine ⟨N * N', ?_, bt_mul hN hN'⟩
  have c1 : ((N * N' : Int) : Rat) = (N : Rat) * N' := by push_cast; rfl
  have c2 : ((B * C : Int) : Rat) = (B : Rat) * C := by push_cast; rfl
  rw [e, e', c1, c2]
  grind
theorem ov_add {B : Int} {m n : Nat} {p q : Rat} (h1 : Ov B m p) (h2 : Ov B n q) : Ov B (max m n + 1) (p + q) := by
  obtain ⟨N, e, hN⟩ := h1
  obtain ⟨N', e', hN'⟩ := h2
  refine ⟨N + N', ?_, bt_add hN hN'⟩
  have c1 : ((N + N' : Int) : Rat) = (N : Rat) + N' := by push_cast; rfl
  rw [e, e', c1]
  grind
theorem Ov.comm {B C : Int} {m : Nat} {q : Rat} (h : Ov (B * C) m q) : Ov (C * B) m q := Int.mul_comm B C ▸ h
theorem dens_dvd : ∀ {ts : List Rat} {q : Rat}, q ∈ ts → (q.den : Int) ∣ dens ts
  | t :: ts, q, h => by
    rcases List.mem_cons.mp h with h | h
    · rw [h]; exact Int.dvd_mul_right _ _
    · exact Int.dvd_trans (dens_dvd h) (Int.dvd_mul_left _ _)
/-! ### tuples put together; is not True; any(..) within a suite -/
section
variable {X : Cx} {ρ : Ro} {A : AH} {a b : Expr} {pos p0 : Pos} {ds es : List D}
end
section
variable {X : Cx} {ρ : Ro} {A : AH} {a : Expr} {pos p0 : Pos} {p : Addr} {oe : Obj} {pn : List (Addr × Obj)} {bs : List Bool}
end
/-! ### one map and another; back -/
end C7
namespace C7
end C7
namespace C7
open PySem PySem.Spec PyProof.Rows L2
section
variable {X : Cx} {ρ : Ro} {A : AH} {a : Expr} {β : Type} {f : β → D} {tg : Expr} {kI : AH → (AH → Prop) → Nat → (Nat → D) → Prop}
end
end C7
namespace C7
open PySem PySem.Spec PyProof.Rows L2
/-! ### differences and powers, on sequences -/
def dl (x : Nat → Rat) : Nat → Rat := fun i => x (i + 1) - x i
def dn : Nat → (Nat → Rat) → Nat → Rat
  | 0, x => x
  | k + 1, x => dl (dn k x)
theorem ch_succ (n k : Nat) : ((ch (n + 1) (k + 1) : Nat) : Rat) = (ch n k : Rat) + (ch n (k + 1) : Rat) := by
  show ((ch n k + ch n (k + 1) : Nat) : Rat) = _
  push_cast
  rfl
theorem pascal (g : Nat → Rat) (n : Nat) : sumN (fun k => (ch (n + 1) k : Rat) * g k) (n + 2) = sumN (fun k => (ch n k : Rat) * g k) (n + 1) + sumN (fun k => (ch n k : Rat) * g (k + 1)) (n + 1) := by
  rw [sumN_first]
  have e1 : sumN (fun k => ((ch (n + 1) (k + 1) : Nat) : Rat) * g (k + 1)) (n + 1) = sumN (fun k => (ch n k : Rat) * g (k + 1)) (n + 1) + sumN (fun k => (ch n (k + 1) : Rat) * g (k + 1)) (n + 1) := by
    rw [← sumN_add]
    exact sumN_congr fun k _ => by rw [ch_succ]; grind
  have e2 : sumN (fun k => (ch n k : Rat) * g k) (n + 2) = (ch n 0 : Rat) * g 0 + sumN (fun k => (ch n (k + 1) : Rat) * g (k + 1)) (n + 1) := sumN_first _ _
  have e3 : sumN (fun k => (ch n k : Rat) * g k) (n + 2) = sumN (fun k => (ch n k : Rat) * g k) (n + 1) := by
    show sumN (fun k => (ch n k : Rat) * g k) (n + 1) + (ch n (n + 1) : Rat) * g (n + 1) = _
    rw [ch_over (show n < n + 1 by omega)]
    grind
  have e4 : ((ch (n + 1) 0 : Nat) : Rat) = (ch n 0 : Rat) := by rw [ch_zero, ch_zero]
  rw [e4]
  show (ch n 0 : Rat) * g 0 + sumN (fun k => ((ch (n + 1) (k + 1) : Nat) : Rat) * g (k + 1)) (n + 1) = _
  rw [e1]
  grind
def sg (m : Nat) : Rat := if m % 2 = 0 then 1 else -1
theorem sg_succ (m : Nat) : sg (m + 1) = -sg m := by
  unfold sg
  rcases Nat.mod_two_eq_zero_or_one m with h | h
  · rw [h, if_neg (by omega), if_pos rfl]
  · rw [h, if_pos (by omega), if_neg (by decide)]; grind
theorem dn_sum : ∀ (k : Nat) (x : Nat → Rat) (i : Nat), dn k x i = sumN (fun j => (ch k j : Rat) * (sg (k - j) * x (i + j))) (k + 1) := by
  intro k
  induction k with
  | zero =>
    intro x i
    show x i = 0 + (ch 0 0 : Rat) * (sg 0 * x (i + 0))
    rw [ch_zero, show sg 0 = 1 from rfl, Nat.add_zero]
    grind
  | succ k ih =>
    intro x i
    show dn k x (i + 1) - dn k x i = _
    rw [pascal (fun j => sg (k + 1 - j) * x (i + j)) k, ih, ih]
    have e1 : sumN (fun j => (ch k j : Rat) * (sg (k + 1 - j) * x (i + j))) (k + 1) = -1 * sumN (fun j => (ch k j : Rat) * (sg (k - j) * x (i + j))) (k + 1) := by
      rw [← sumN_mul]
      refine sumN_congr fun j hj => ?_
      rw [show k + 1 - j = (k - j) + 1 by omega, sg_succ]
      grind
    have e2 : sumN (fun j => (ch k j : Rat) * (sg (k + 1 - (j + 1)) * x (i + (j + 1)))) (k + 1) = sumN (fun j => (ch k j : Rat) * (sg (k - j) * x (i + 1 + j))) (k + 1) := by
      refine sumN_congr fun j hj => ?_
      rw [show k + 1 - (j + 1) = k - j by omega, show i + (j + 1) = i + 1 + j by omega]
    rw [e1, e2]
    grind
/-! ### of curves -/
def prs (f g : Nat → Rat) (n : Nat) : List Pt := (List.range n).map fun k => (f k, g k)
theorem prs_len (f g : Nat → Rat) (n : Nat) : (prs f g n).length = n := by unfold prs; simp
def powersR (row : List Pt) : List Pt := prs (fun k => (ch (row.length - 1) k : Rat) * dn k (px row) 0) (fun k => (ch (row.length - 1) k : Rat) * dn k (py row) 0) row.length
theorem powersR_len (row : List Pt) : (powersR row).length = row.length := prs_len _ _ _
/-! ### one seat more -/
/-! ### speeds -/
end C7
namespace C7
open PySem PySem.Spec PyProof.Rows L2
theorem av_globI {X : Cx} {ρ : Ro} {A : AH} {n : Str} {i : Int} {pos : Pos} (hg : Gl X n) (h : ∃ t, X.mg n = some (.int i t)) (hd : (n == ("__debug__" : Str)) = false := by decide) : AV X (.Name n pos) ρ A (.int i) := by
  obtain ⟨t, ht⟩ := h
  exact av_glob hg ht (v := .int i) ⟨t, rfl⟩ (fun _ => .int i) hd
theorem prs_succ (f g : Nat → Rat) (n : Nat) : prs f g (n + 1) = prs f g n ++ [(f n, g n)] := by unfold prs; rw [List.range_succ, List.map_append]; rfl
end C7
namespace C7
open PySem PySem.Spec PyProof.Rows L2
end C7
namespace C7
open PySem PySem.Spec PyProof.Rows L2
end C7
namespace C7
open PySem PySem.Spec PyProof.Rows L2
end C7
namespace C7
open PySem PySem.Spec PyProof.Rows L2
/-- points, each times its share, summed -/
def sumR (row : List Pt) (ts : List Rat) : Nat → Pt
  | 0 => (0, 0)
  | i + 1 => ((sumR row ts i).1 + ts.getD i 0 * (row.getD i (0, 0)).1, (sumR row ts i).2 + ts.getD i 0 * (row.getD i (0, 0)).2)
theorem sumR_sumN (row : List Pt) (ts : List Rat) : ∀ n, sumR row ts n = (sumN (fun k => ts.getD k 0 * px row k) n, sumN (fun k => ts.getD k 0 * py row k) n)
  | 0 => rfl
  | n + 1 => by
    show ((sumR row ts n).1 + _, (sumR row ts n).2 + _) = _
    rw [sumR_sumN row ts n]
    rfl
theorem ov_sumN {B : Int} {m : Nat} {f : Nat → Rat} : ∀ n, (∀ k, k < n → Ov B m (f k)) → Ov B (m + n) (sumN f n)
  | 0, _ => ⟨0, by show (0 : Rat) = _; push_cast; grind, Nat.pow_pos (by decide)⟩
  | n + 1, h => (ov_add (ov_sumN n fun k hk => h k (by omega)) (h n (by omega))).up (by omega)
theorem Rw.sum {m n l : Nat} {row : List Pt} {ts : List Rat} (h : Rw m row) (ht : ∀ t ∈ ts, Sz n t) (hl : ts.length ≤ l) (hr : ts.length ≤ row.length) : ∀ i, i ≤ ts.length → SzP (m + (l + 1) * n + l + 2) (sumR row ts i) := by
  obtain ⟨B, b0, b1, b2⟩ := h
  have hD0 := dens_ne ts
  have hD := dens_bt (n := n) ts ht
  intro i hi
  have key : ∀ x : Nat → Rat, (∀ a, a < row.length → Ov B m (x a)) → Ov (B * dens ts) (m + (l + 1) * n + l + 2) (sumN (fun k => ts.getD k 0 * x k) i) := by
    intro x hx
    have e1 : ts.length * n ≤ l * n := Nat.mul_le_mul_right _ hl
    have e2 : (l + 1) * n = l * n + n := Nat.succ_mul _ _
    refine (ov_sumN (m := m + (n + (ts.length * n + 1))) i fun k hk => ?_).up (by omega)
    have hm : ts.getD k 0 ∈ ts := by rw [List.getD_eq_getElem?_getD, List.getElem?_eq_getElem (show k < ts.length by omega)]; exact List.getElem_mem _
    have := (ov_mul (ov_dvd (ht _ hm) (dens_dvd hm) hD0 hD) (hx k (by omega))).comm
    exact this.up (by omega)
  have hB : (B * dens ts).natAbs < 2 ^ (m + (l + 1) * n + l + 2) := by
    have e1 : ts.length * n ≤ l * n := Nat.mul_le_mul_right _ hl
    have e2 : (l + 1) * n = l * n + n := Nat.succ_mul _ _
    exact bt_le (bt_mul b1 hD) (by omega)
  rw [sumR_sumN]
  exact ⟨ov_sz (Int.mul_ne_zero b0 hD0) hB (key (px row) fun a ha => (b2 _ (gp_mem ha)).1), ov_sz (Int.mul_ne_zero b0 hD0) hB (key (py row) fun a ha => (b2 _ (gp_mem ha)).2)⟩
end C7
namespace C7
open PySem PySem.Spec PyProof.Rows L2
def partI (n k a : Nat) : Int := ((ch n k : Nat) : Int) * ((ch k a : Nat) : Int) * (1 - 2 * (((k : Int) - (a : Int)) % 2))
def partsR (n k j : Nat) : List Rat := (List.range j).map fun a => ((partI n k a : Int) : Rat)
theorem partsR_len (n k j : Nat) : (partsR n k j).length = j := by unfold partsR; simp
theorem partsR_get {n k j a : Nat} (h : a < j) : (partsR n k j).getD a 0 = ((partI n k a : Int) : Rat) := by
  unfold partsR
  rw [List.getD_eq_getElem?_getD, List.getElem?_map, List.getElem?_range h]
  rfl
theorem partI_bt {n k a : Nat} (hn : n ≤ 12) (hk : k ≤ 12) : (partI n k a).natAbs < 2 ^ 27 := by
  have h1 : ((ch n k : Nat) : Int).natAbs < 2 ^ 13 := by rw [Int.natAbs_natCast]; exact Nat.lt_of_le_of_lt (ch_le _ _) (Nat.pow_lt_pow_right (by decide) (by omega))
  have h2 : ((ch k a : Nat) : Int).natAbs < 2 ^ 13 := by rw [Int.natAbs_natCast]; exact Nat.lt_of_le_of_lt (ch_le _ _) (Nat.pow_lt_pow_right (by decide) (by omega))
  exact bt_mul (a := 26) (b := 1) (bt_mul h1 h2) (by omega)
theorem partI_eq {n k a : Nat} (h : a ≤ k) : ((partI n k a : Int) : Rat) = (ch n k : Rat) * ((ch k a : Rat) * sg (k - a)) := by
  have e : (((1 - 2 * (((k : Int) - (a : Int)) % 2) : Int)) : Rat) = sg (k - a) := by
    unfold sg
    rcases Nat.mod_two_eq_zero_or_one (k - a) with h2 | h2
    · rw [if_pos h2, show ((k : Int) - (a : Int)) % 2 = 0 by omega]; rfl
    · rw [if_neg (by omega), show ((k : Int) - (a : Int)) % 2 = 1 by omega]; rfl
  have c : ((partI n k a : Int) : Rat) = (ch n k : Rat) * (ch k a : Rat) * (((1 - 2 * (((k : Int) - (a : Int)) % 2) : Int)) : Rat) := by unfold partI; push_cast; rfl
  rw [c, e]
  grind
theorem sum_parts {row : List Pt} {n k : Nat} (hk : k < row.length) : sumR row (partsR n k (k + 1)) (partsR n k (k + 1)).length = ((ch n k : Rat) * dn k (px row) 0, (ch n k : Rat) * dn k (py row) 0) := by
  have key : ∀ x : Nat → Rat, sumN (fun a => (partsR n k (k + 1)).getD a 0 * x a) (k + 1) = (ch n k : Rat) * dn k x 0 := by
    intro x
    rw [dn_sum, ← sumN_mul]
    refine sumN_congr fun a ha => ?_
    rw [partsR_get ha, partI_eq (by omega), Nat.zero_add]
    grind
  rw [partsR_len, sumR_sumN, key, key]
theorem wy_get {n k : Nat} (h : k < n + 1) : ((List.range (n + 1)).map fun k => ((ch n k : Nat) : Int)).getD k 0 = ((ch n k : Nat) : Int) := by
  rw [List.getD_eq_getElem?_getD, List.getElem?_map, List.getElem?_range h]
  rfl
end C7
namespace C7
open PySem PySem.Spec PyProof.Rows L2
end C7
namespace C7
open PySem PySem.Spec PyProof.Rows L2
end C7
namespace C7
open PySem PySem.Spec PyProof.Rows L2
end C7
namespace C7
open PySem PySem.Spec PyProof.Rows L2
/-! ### sets of pairs of whole numbers, sorted -/
section
variable {P : Program} {w : World} {A : Around} {E : Value → Shared → Prop} {s : Shared}
end
/-! the sorted list without repeats -/
section
variable {X : Cx}
end
section
variable {X : Cx} {ρ : Ro} {A : AH} {a : Expr} {x : D} {zs : List (Int × Int)} {p0 p2 pos pos2 : Pos} {lv : Nat}
end
section
variable {X : Cx} {ρ ρ' : Ro} {es : List Expr} {pos : Pos} {ds : List D}
end
end C7
namespace C7
open PySem PySem.Spec PyProof.Rows L2
/-! ### dicts whose keys are tuples -/
section
variable {X : Cx} {pins : List (Addr × Obj)} {σ : L2.St} {H : Hp} {s : Shared}
mutual
theorem key_ok (I : Inv X pins σ H s) : ∀ {v : V} {d : D}, Rp X.K H v d → ∀ {k : NestedKey} {u : Value}, keyD d = some k → RelV v u → NestedIs s.heap k u
  | _, _, .int i, k, u, h, r => by
    have h : some (NestedKey.num i) = some k := h
    cases h
    obtain ⟨t, rfl⟩ := r
    exact .int i t
  | _, _, .str x, k, u, h, r => by
    have h : some (NestedKey.text x) = some k := h
    cases h
    obtain ⟨t, rfl⟩ := r
    exact .text x t
  | _, _, .tup (ds := ds) h1 h2, k, u, h, r => by
    obtain ⟨its, rv, ⟨o, ho, hc, n, hd⟩, _⟩ := I.tuple h1
    unfold keyD at h
    cases e : keysD ds with
    | none => rw [e] at h; cases h
    | some ks =>
      rw [e] at h
      cases h
      cases r
      exact .tup ho hc hd (by simpa using keys_ok I h2 e rv)
  | _, _, .non, _, _, h, _ => nomatch h
  | _, _, .bl _, _, _, h, _ => nomatch h
  | _, _, .ref _, _, _, h, _ => nomatch h
  | _, _, .ty _, _, _, h, _ => nomatch h
  | _, _, .cl _ _, _, _, h, _ => nomatch h
  | _, _, .fz _ _, _, _, h, _ => nomatch h
theorem keys_ok (I : Inv X pins σ H s) : ∀ {vs : List V} {ds : List D}, Rps X.K H vs ds → ∀ {ks : List NestedKey} {us : List Value}, keysD ds = some ks → Vals vs us → NestedAll s.heap ks us
  | _, _, .nil, ks, us, h, r => by
    have h : some [] = some ks := h
    cases h
    cases r
    exact .nil
  | _, _, .cons (d := d) (ds := ds) a b, ks, us, h, r => by
    unfold keysD at h
    cases e1 : keyD d with
    | none => rw [e1] at h; simp at h
    | some k =>
      cases e2 : keysD ds with
      | none => rw [e1, e2] at h; simp at h
      | some ls =>
        rw [e1, e2] at h
        cases h
        cases r with
        | cons r1 r2 => exact .cons (key_ok I a e1 r1) (keys_ok I b e2 r2)
end
end
section
variable {X : Cx}
end
/-! ### the rules of the layer -/
section
variable {X : Cx} {W : WX} {ρ : Ro} {A : AH} {e a b o i : Expr} {pos : Pos} {d kd : D} {k : AK} {E : AEnds} {kk : NestedKey} {kvs : List (NestedKey × D)} {lv : Nat} {p : Addr}
variable {ds : List D}
end
/-! ### a pair in a list of pairs -/
section
variable {X : Cx}
variable {ρ : Ro} {A : AH} {a b : Expr} {pos : Pos} {x : D} {z : Int × Int} {zs : List (Int × Int)} {lv : Nat}
end
end C7
namespace C7
open PySem PySem.Spec PyProof.Rows L2
/-! ### min of a list of pairs -/
section
variable {X : Cx}
variable {ρ : Ro} {A : AH} {a : Expr} {pos p0 : Pos} {d : D} {x : Int × Int} {xs : List (Int × Int)} {lv : Nat}
end
end C7
namespace C7
open PySem PySem.Spec PyProof.Rows L2
/-! ### own classes: making, methods, fields -/
section
variable {X : Cx} {CX : CXT} {lv : Nat} {f C : Addr} {fd : FuncData} {ps : List Str} {sp : Sp}
theorem run_mkX {pins : List (Addr × Obj)} {σ : L2.St} {H : Hp} {s : Shared} {Q : VK} {E : XK} {us : List Value} {vs : List V} (M : Mk X.K C f) (F : FnOk X.prog X.w X.K X.mg X.base CX lv f fd ps sp) (hr : Room (lv + 1) X.A) (hb : Binds X.K fd ps [])
    (hx : PassesAt CX X σ E) (I : Inv X pins σ H s) (r : Vals vs us) (h : ∀ x dx, H x = none → H dx = none → dx ≠ x → sp (.ref x :: vs) (upd (upd H dx (.own x)) x (.ins C dx [])) (fun v H2 => v = .non ∧ Q (.ref x) H2) E) :
    wpAny (model X.prog X.w) X.A (call (.ref C) us) (EP X pins σ Q) X.xe s := by
  have J := Inv.made (C := C) I
  have hsp := h (s.heap.objs.size + 1) s.heap.objs.size (I.hok.fresh (Nat.le_succ _)) (I.hok.fresh (Nat.le_refl _)) (Nat.ne_of_lt (Nat.lt_succ_self _))
  have rr : Vals (V.ref (s.heap.objs.size + 1) :: vs) (Value.ref (s.heap.objs.size + 1) :: us) := .cons rfl r
  have ln : (Value.ref (s.heap.objs.size + 1) :: us).length = ps.length := rr.length.symm.trans (F.len _ _ _ _ hsp)
  have bd := hb _ (Value.ref (s.heap.objs.size + 1) :: us) J.kIn (by rw [List.append_nil]; exact ln)
  rw [List.append_nil] at bd
  refine wpAny_call (make_map (f := f) I.kIn M.makes M.init (beq_iff_eq.mp M.fn) (codeAny_mono (F.run _ X.stack _ _ ⟨Value.ref (s.heap.objs.size + 1) :: us, []⟩ _ _ _ E (hr.make C us []) (J.env0.make C us []) bd rr hsp) fun res s' hz => ?_))
  match res, hz with
  | .error e, hz => exact hx pins _ _ e s' J hz
  | .ok (.ret u), hz =>
    obtain ⟨v, H', I3, rv, ev, q3⟩ := J.after hz
    subst ev
    exact ⟨rv, ⟨V.ref (s.heap.objs.size + 1), H', I3, rfl, q3⟩⟩
  | .ok .next, hz => exact hz.elim
  | .ok .brk, hz => exact hz.elim
  | .ok .cont, hz => exact hz.elim
def tMkX (C : Addr) (sp : Sp) (E : L2.St → XK) (t : TA) : TE := fun σ H Q => t σ H fun vs H1 => ∀ x dx, H1 x = none → H1 dx = none → dx ≠ x → sp (.ref x :: vs) (upd (upd H1 dx (.own x)) x (.ins C dx [])) (fun v H2 => v = .non ∧ Q (.ref x) H2) (E σ)
def tMtX (C : Addr) (m : Str) (sp : Sp) (E : L2.St → XK) (ta : TE) (t : TA) : TE := fun σ H Q => ta σ H fun x H1 => ∃ a dx fs, x = .ref a ∧ H1 a = some (.ins C dx fs) ∧ fs.lookup m = none ∧ t σ H1 fun vs H2 => sp (x :: vs) H2 Q (E σ)
variable {E : L2.St → XK} {m : Str} {apos pos : Pos} {e o : Expr} {es : List Expr} {ta : TE} {t : TA}
theorem pe_mtX {pl : Sem Bool} (ho : PE X o ta) (c : Cls X.K C) (hm : Meth X.K C m f) (F : FnOk X.prog X.w X.K X.mg X.base CX lv f fd ps sp) (hr : Room lv X.A) (hb : Binds X.K fd ps []) (hx : ∀ σ, PassesAt CX X σ (E σ)) (ha : PA X (e :: es) t)
    (hst : starEach (e :: es) X.env = (false, eval e X.env) :: starEach es X.env := by rfl) (hpl : (backTo pos (starEach es X.env)).any (·.1) = false := by rfl)
    (ht : eval (.Call (.Attribute o m apos) (e :: es) [] pos) X.env = (eval o X.env >>= fun ov => standAt apos.atName >>= fun _ => holding [ov] (getMethod ov m pl) >>= fun z => callWith pos z.1 z.2 (backTo pos (starEach (e :: es) X.env)) (backToKw pos (keywordEach [] X.env))) := by rfl) :
    PE X (.Call (.Attribute o m apos) (e :: es) [] pos) (tMtX C m sp E ta t) := by
  refine ⟨fun pins s σ H Q I h => PySem.W.methodCall_KW (pl := pl) (thn (ho.run pins s σ H _ I h) fun u s1 hu => ?_) ht⟩
  obtain ⟨x, H1, I1, rx, a, dx, fs, rfl, ea, l, q⟩ := hu
  obtain rfl : u = Value.ref a := rx
  exact getmeth_ok I1 ea c hm l (PySem.W.callWith_K (first := [.ref a]) (h₀ := X.base) I.ok.mod.kin hm.kp (thn (ha.run pos pins s1 σ H1 _ I1 q) fun us s2 ⟨vs, H2, I2, r, q2⟩ => ⟨I2.kIn, run_fnS (us := .ref a :: us) (vs := .ref a :: vs) F hr hb (hx σ) I2 (.cons rfl r) q2⟩) hst hpl)
end
/-- what the top has left of a method, of a class's __init__ -/
structure MtF (K : Frag) (C : Addr) (m qual : Str) (st : Stmt) (ps : List Str) : Prop where
  ex : ∃ f fd, Fun K m qual st f fd ∧ Meth K C m f ∧ Binds K fd ps []
structure InF (K : Frag) (C : Addr) (qual : Str) (st : Stmt) (ps : List Str) : Prop where
  ex : ∃ f fd, Fun K "__init__" qual st f fd ∧ Mk K C f ∧ Binds K fd ps []
structure Mt (P : Program) (w : World) (K : Frag) (mg : Str → Option Value) (base : Heap) (C : Addr) (m : Str) (k : Nat) (ct : Ct) : Prop where
  ex : ∃ f fd ps, FnOk P w K mg base (L2N.CX P w) k f fd ps (spOf K ct) ∧ Meth K C m f ∧ Binds K fd ps []
structure Ini (P : Program) (w : World) (K : Frag) (mg : Str → Option Value) (base : Heap) (C : Addr) (k : Nat) (ct : Ct) : Prop where
  ex : ∃ f fd ps, FnOk P w K mg base (L2N.CX P w) k f fd ps (spOf K ct) ∧ Mk K C f ∧ Binds K fd ps []
structure ClF (K : Frag) (mg : Str → Option Value) (x : Str) (C : Addr) : Prop where
  c : Cls K C
  g : mg x = some (.ref C)
section
variable {P : Program} {w : World} {K : Frag} {mg : Str → Option Value} {base : Heap} {C : Addr} {m qual : Str} {st : Stmt} {N ps : List Str} {k : Nat} {ct : Ct}
theorem mt_mk (d : MtF K C m qual st ps) (S : FnScope N ps (defScope st)) (len : ∀ ds A k e, ct ds A k e → ds.length = ps.length) (body : ∀ f, BodyOk P w K mg base N qual st f k ct) : Mt P w K mg base C m (k + 1) ct := by
  obtain ⟨f, fd, F, hm, hb⟩ := d.ex
  exact ⟨f, fd, ps, fnok_mk F S len (body f), hm, hb⟩
theorem in_mk (d : InF K C qual st ps) (S : FnScope N ps (defScope st)) (len : ∀ ds A k e, ct ds A k e → ds.length = ps.length) (body : ∀ f, BodyOk P w K mg base N qual st f k ct) : Ini P w K mg base C (k + 1) ct := by
  obtain ⟨f, fd, F, hm, hb⟩ := d.ex
  exact ⟨f, fd, ps, fnok_mk F S len (body f), hm, hb⟩
theorem mtf_mk {f : Addr} {oc : Value} {od an : Option Addr} {osl : Array (Option Value)} {kV doc pm cdv c2 : Value} (a : PySem.W.findIn K (.ref C) m = some (some (.ref f))) (i : PySem.W.isFn K (.ref f) = true)
    (l : K.lookup f = some ⟨oc, od, .func (PySem.W.fnOf m qual (defArgs st) (defBody st) (defScope st) .none kV doc pm an cdv c2), osl⟩) (c : PySem.W.codeIn K cdv qual = true) (k : PySem.W.keepIn K (.ref f) = true)
    (hb : ∀ (kV doc pm : Value) (an : Option Addr) (cdv ct : Value) (us : List Value), us.length = ps.length → bindArgs (PySem.W.fnOf m qual (defArgs st) (defBody st) (defScope st) .none kV doc pm an cdv ct) ⟨us, []⟩ = pure (ps.zip us)) : MtF K C m qual st ps :=
  have F := fun_mk (st := st) l c k
  ⟨f, _, F, ⟨a, i, k⟩, F.binds hb⟩
theorem inf_mk {f : Addr} {oc : Value} {od an : Option Addr} {osl : Array (Option Value)} {kV doc pm cdv c2 : Value} (mk : PySem.W.makesIn K C = true) (kc : PySem.W.keepIn K (.ref C) = true) (a : PySem.W.findIn K (.ref C) "__init__" = some (some (.ref f))) (i : PySem.W.isFn K (.ref f) = true)
    (l : K.lookup f = some ⟨oc, od, .func (PySem.W.fnOf "__init__" qual (defArgs st) (defBody st) (defScope st) .none kV doc pm an cdv c2), osl⟩) (c : PySem.W.codeIn K cdv qual = true) (k : PySem.W.keepIn K (.ref f) = true)
    (hb : ∀ (kV doc pm : Value) (an : Option Addr) (cdv ct : Value) (us : List Value), us.length = ps.length → bindArgs (PySem.W.fnOf "__init__" qual (defArgs st) (defBody st) (defScope st) .none kV doc pm an cdv ct) ⟨us, []⟩ = pure (ps.zip us)) : InF K C qual st ps :=
  have F := fun_mk (st := st) l c k
  ⟨f, _, F, ⟨mk, a, i, kc⟩, F.binds hb⟩
end
/-- fields -/
def putFD (f : Str) (v : D) : List (Str × D) → List (Str × D)
  | [] => [(f, v)]
  | (g, x) :: r => if g = f then (g, v) :: r else (g, x) :: putFD f v r
abbrev FdP (K : Frag) (H : Hp) : List (Str × V) → List (Str × D) → Prop := Paired fun (p : Str × V) (q : Str × D) => p.1 = q.1 ∧ Rp K H p.2 q.2
theorem fd_look {K : Frag} {H : Hp} {f : Str} : ∀ {gs : List (Str × V)} {fs : List (Str × D)}, FdP K H gs fs → (fs.lookup f = none → gs.lookup f = none) ∧ ∀ d, fs.lookup f = some d → ∃ v, gs.lookup f = some v ∧ Rp K H v d
  | _, _, .nil => ⟨fun _ => rfl, fun d h => (nomatch h)⟩
  | (x, v) :: gs, (y, d) :: fs, .cons h t => by
    obtain ⟨e, r⟩ := h
    have e : x = y := e
    subst e
    by_cases g : f = x
    · subst g
      rw [List.lookup_cons_self, List.lookup_cons_self]
      exact ⟨(fun h => nomatch h), fun d' h => ⟨v, rfl, by cases h; exact r⟩⟩
    · have ne : (f == x) = false := beq_eq_false_iff_ne.mpr g
      rw [List.lookup_cons, List.lookup_cons, ne]
      exact fd_look t
theorem fd_put {K : Frag} {H : Hp} {f : Str} {v : V} {d : D} (r : Rp K H v d) : ∀ {gs : List (Str × V)} {fs : List (Str × D)}, FdP K H gs fs → FdP K H (putF f v gs) (putFD f d fs)
  | _, _, .nil => .cons ⟨rfl, r⟩ .nil
  | (x, u) :: gs, (y, z) :: fs, .cons h t => by
    have e : x = y := h.1
    subst e
    show FdP K H (if x = f then (x, v) :: gs else (x, u) :: putF f v gs) (if x = f then (x, d) :: fs else (x, z) :: putFD f d fs)
    by_cases g : x = f
    · rw [if_pos g, if_pos g]; exact .cons ⟨rfl, r⟩ t
    · rw [if_neg g, if_neg g]; exact .cons h (fd_put r t)
theorem Rel.ins {K : Frag} {A : AH} {H : Hp} {p C dx : Addr} {fs : List (Str × D)} (r : Rel K A H) (h : A p = some (.ins C dx fs)) : ∃ gs, H p = some (.ins C dx gs) ∧ FdP K H gs fs := by
  obtain ⟨u, e1, gs, e2, e3⟩ := r p _ h
  rw [e2] at e1
  exact ⟨gs, e1, e3⟩
section
variable {X : Cx} {W : WX} {ρ : Ro} {A : AH} {e o : Expr} {es : List Expr} {pos apos p0 : Pos} {d : D} {k : AK} {E : AEnds} {lv : Nat} {p C dx : Addr} {fs : List (Str × D)} {f n m : Str} {ct : Ct} {ds : List D} {xc : Value → AH → Prop}
theorem av_fld (c : Cls X.K C) (na : NoAttr X.K C f) (ho : AV X o ρ A (.ref p)) (hl : A p = some (.ins C dx fs)) (h : fs.lookup f = some d) (hb : attributeBase o f X.env (eval o X.env) = eval o X.env := by rfl) : AV X (.Attribute o f pos) ρ A d := fun σ H s Q q =>
  tm_of (pe_fld (pe_tm o) hb) (ho σ H s _ fun v H1 t1 r1 l1 => by
    obtain ⟨gs, e1, e2⟩ := l1.ins hl
    obtain ⟨v', e3, e4⟩ := (fd_look e2).2 d h
    exact ⟨p, C, dx, gs, v', r1.ref_of, e1, c, na, e3, q v' H1 t1 e4 l1⟩)
theorem mkT {H : Hp} {vs : List V} {A1 : AH} (l : Rel X.K A1 H) {x y : Addr} (hx : H x = none) (hy : H y = none) (ne : y ≠ x) : TS H (upd (upd H y (.own x)) x (.ins C y [])) ∧ Rel X.K (aupd A1 x (.ins C y [])) (upd (upd H y (.own x)) x (.ins C y [])) := by
  have hx' : upd H y (.own x) x = none := by rw [upd_ne (fun e => ne e.symm)]; exact hx
  exact ⟨(TS.new hy).trans (TS.new hx'), (l.newAny hy).new hx' ⟨[], rfl, .nil⟩⟩
theorem ae_mt (F : Mt X.prog X.w X.K X.mg X.base C m lv ct) (c : Cls X.K C) (hr : Room lv X.A) (ho : AV X o ρ A (.ref p)) (hl : A p = some (.ins C dx fs)) (hn : fs.lookup m = none) (h : AEs X (e :: es) ρ A fun ds A1 => ct (.ref p :: ds) A1 k fun _ _ => False)
    {pl : Sem Bool} (hst : starEach (e :: es) X.env = (false, eval e X.env) :: starEach es X.env := by rfl) (hpl : (backTo pos (starEach es X.env)).any (·.1) = false := by rfl)
    (ht : eval (.Call (.Attribute o m apos) (e :: es) [] pos) X.env = (eval o X.env >>= fun ov => standAt apos.atName >>= fun _ => holding [ov] (getMethod ov m pl) >>= fun z => callWith pos z.1 z.2 (backTo pos (starEach (e :: es) X.env)) (backToKw pos (keywordEach [] X.env))) := by rfl) : AE X (.Call (.Attribute o m apos) (e :: es) [] pos) ρ A k := fun σ H s Q q => by
  obtain ⟨f, fd, ps, F, M, hb⟩ := F.ex
  refine tm_of (pe_mtX (E := fun _ => E0) (pe_tm o) c M F hr hb (fun σ => fun pins H s e s' I c => passN pins σ H s e s' I c) (pa_tm (e :: es)) hst hpl ht) (ho σ H s _ fun v H1 t1 r1 l1 => ?_)
  obtain ⟨gs, e1, e2⟩ := l1.ins hl
  refine ⟨p, dx, gs, r1.ref_of, e1, (fd_look e2).1 hn, h σ H1 (s.mono t1 l1) _ fun vs H2 ds A2 t2 r2 l2 h2 => ?_⟩
  rw [r1.ref_of]
  exact ⟨.ref p :: ds, A2, k, fun _ _ => False, .cons (.ref p) r2, l2, h2, fun v H' d A' t3 r3 l3 k3 => q v H' d A' ((t1.trans t2).trans t3) r3 l3 k3, fun _ _ _ _ _ z => z⟩
theorem aex_mt (F : Mt X.prog X.w X.K X.mg X.base C m lv ct) (tk : L2N.Takes X W) (c : Cls X.K C) (hr : Room lv X.A) (ho : AV X o ρ A (.ref p)) (hl : A p = some (.ins C dx fs)) (hn : fs.lookup m = none) (h : AEs X (e :: es) ρ A fun ds A1 => ct (.ref p :: ds) A1 k xc)
    {pl : Sem Bool} (hst : starEach (e :: es) X.env = (false, eval e X.env) :: starEach es X.env := by rfl) (hpl : (backTo pos (starEach es X.env)).any (·.1) = false := by rfl)
    (ht : eval (.Call (.Attribute o m apos) (e :: es) [] pos) X.env = (eval o X.env >>= fun ov => standAt apos.atName >>= fun _ => holding [ov] (getMethod ov m pl) >>= fun z => callWith pos z.1 z.2 (backTo pos (starEach (e :: es) X.env)) (backToKw pos (keywordEach [] X.env))) := by rfl) : AEx X W (.Call (.Attribute o m apos) (e :: es) [] pos) ρ A xc k := fun σ H s Q q hx0 => by
  obtain ⟨f, fd, ps, F, M, hb⟩ := F.ex
  refine tm_of (pe_mtX (E := WE W) (pe_tm o) c M F hr hb (fun σ => L2N.passAt tk σ) (pa_tm (e :: es)) hst hpl ht) (ho σ H s _ fun v H1 t1 r1 l1 => ?_)
  obtain ⟨gs, e1, e2⟩ := l1.ins hl
  refine ⟨p, dx, gs, r1.ref_of, e1, (fd_look e2).1 hn, h σ H1 (s.mono t1 l1) _ fun vs H2 ds A2 t2 r2 l2 h2 => ?_⟩
  rw [r1.ref_of]
  exact ⟨.ref p :: ds, A2, k, xc, .cons (.ref p) r2, l2, h2, fun v H' d A' t3 r3 l3 k3 => q v H' d A' ((t1.trans t2).trans t3) r3 l3 k3, fun c H' A' t3 l3 k3 => hx0 c H' A' ((t1.trans t2).trans t3) l3 k3⟩
end
end C7
namespace C7
open PySem PySem.Spec PyProof.Rows L2
end C7
namespace C7
open PySem PySem.Spec PyProof.Rows L2
theorem a1_asgx {X : Cx} {W : WX} {ρ : Ro} {A : AH} {e : Expr} {pos : Pos} {E : AEnds} {tg : Expr} {is : List Nat} (h : AEx X W e ρ A (fun c A' => E.xc c ρ A') fun d A' => ∃ ρ', AG X tg is ρ d ρ' ∧ E.nx ρ' A') (hs : swapsWithSole [tg] e pos.line X.env = pure false := by rfl) (hw : swappedStores [tg] e X.env = pure none := by rfl)
    (h1 : (assignEach [tg] X.env).map (·.2) = [assign tg X.env] := by rfl) : A1 X W (.Assign [tg] e pos) ρ A E := fun σ H s D q =>
  tm1_of (ps_asg (pe_tm e) (pg_tm tg) hs hw h1) (h σ H s _ (fun v H' d A' t r l ⟨ρ', g, kd⟩ => g v σ H' A' (s.mono t l) r _ fun σ' _ _ s' => q.nx ρ' A' σ' H' t s' kd) fun c H' A' t l kd => q.xc c ρ A' σ H' t (s.mono t l) kd)
end C7
namespace C7
open PySem PySem.Spec PyProof.Rows L2
/-! ### a new list of new lists -/
structure NQ (A : AH) (r : Addr) (ps : List Addr) (A' : AH) (Q : Nat → List D → Prop) : Prop where
  x : Ext A A'
  r0 : A r = none
  rl : A' r = some (.lst (ps.map D.ref))
  nr : r ∉ ps
  el : ∀ i p, ps[i]? = some p → A p = none ∧ ∃ ds, A' p = some (.lst ds) ∧ Q i ds
structure NL (A : AH) (r : Addr) (ps : List Addr) (A' : AH) (rs : List (List D)) : Prop where
  q : NQ A r ps A' fun i ds => ds = rs.getD i []
  len : ps.length = rs.length
  nd : ps.Nodup
section
variable {α : Type} [DecidableEq α] (e : Enc α)
end
section
variable {X : Cx} {W : WX} {ρ : Ro} {A : AH} {pos : Pos} {k : AK}
section
variable {α : Type} [DecidableEq α] (e : Enc α)
end
/-- what is known of new lists is left -/
theorem as_weak {A0 : AH} {sts : List Stmt} {E : AEnds} (x : Ext A0 A) (h : AS X W sts ρ A0 E) : AS X W sts ρ A E := fun σ H s D q => h σ H ⟨s.len, s.val, fun a o e => s.hp a o (x a o e)⟩ D q
end
end C7
namespace C7
open PySem PySem.Spec PyProof.Rows L2
/-! ### isinstance of the caught error, with a tuple of classes -/
def rIsET (K : Frag) (D a : Addr) (xs : List V) (H : Hp) (Q : VK) : Prop := ∃ tp cs us b, xs = [V.ref a, V.ref tp] ∧ SqT K H tp cs ∧ Paired ClsV cs us ∧ PySem.W.kitAny K (.ref D) us = some b ∧ Q (.bl b) H
theorem call_isET {X : Cx} {a D : Addr} {oe : Obj} {pn : List (Addr × Obj)} (C : L2.ExcC X.K D) (hz : L2.Zc (.ref D) none oe) (hf : ∃ vs, oe.data = .fields vs) : CallR (X.suite a ((a, oe) :: pn)) (.builtin "isinstance") (rIsET X.K D a) := by
  intro pins s σ H xs us Q I r h
  obtain ⟨tp, cs, ts, b, rfl, ht, hc, hk, q⟩ := h
  obtain ⟨u, v, rfl, ru, rv⟩ := vals2 r
  obtain rfl : u = .ref a := ru
  obtain rfl : v = .ref tp := rv
  obtain ⟨its, rr, ⟨o, ho, hcls, n, hd⟩, hl⟩ := I.tuple ht
  have e := ClsV.all hc rr
  subst e
  obtain ⟨hget, _⟩ := I.pin (a, oe) (List.mem_append.mpr (.inl List.mem_cons_self))
  obtain ⟨fv, hv⟩ := hf
  have J : PySem.W.InstAt s.heap a oe D none := by
    refine ⟨hget, hz.1, ?_, ?_⟩
    · unfold PySem.W.notCls; rw [hv]
    · rw [hz.2]; trivial
  obtain ⟨oc, od, dt, sl⟩ := o
  dsimp only at hcls hd
  subst hcls hd
  exact PySem.W.kia_tup (PySem.W.handS_kitx_exc C.hg C.hk C.hs C.hd C.ha C.hn C.ht C.hm) I.kIn J ho hk (by intro h; cases h) fun tk => ⟨.bl b, H, I.kept fun _ _ z => z, rfl, q⟩
theorem clsv {K : Frag} {H : Hp} : ∀ {vs : List V} {Cs : List Addr}, Rps K H vs (Cs.map D.ref) → Paired ClsV vs (Cs.map Value.ref)
  | _, [], .nil => .nil
  | _, C :: Cs, .cons r rs => .cons (by rw [r.ref_of]; exact .own C) (clsv rs)
section
variable {X : Cx} {ρ : Ro} {A : AH} {a b : Expr} {pos p0 : Pos} {D0 p : Addr} {oe : Obj} {pn : List (Addr × Obj)}
theorem kitAny_none {K : Frag} {t : Value} : ∀ {cs : List Value}, (∀ c ∈ cs, PySem.W.kitOne K t c = some false) → PySem.W.kitAny K t cs = some false
  | [], _ => rfl
  | c :: cs, h => by
    have h1 := h c List.mem_cons_self
    have h2 := kitAny_none fun d hd => h d (List.mem_cons_of_mem c hd)
    unfold PySem.W.kitAny
    simp only [h1, h2]
    try rfl
theorem av_isET {Cs : List Addr} (C : ExcC X.K D0) (hz : L2N.Zn (.ref D0) none oe) (hf : ∃ vs, oe.data = .fields vs) (hg : Gl X "isinstance") (hm : X.mg "isinstance" = none)
    (ha : AVs (X.suite p ((p, oe) :: pn)) [a, b] ρ A [.ref p, .tup (Cs.map D.ref)]) (hk : ∀ c ∈ Cs, PySem.W.kitOne X.K (.ref D0) (.ref c) = some false)
    (hs : starEach [a, b] X.env = (false, eval a X.env) :: starEach [b] X.env := by rfl) (hpl : (backTo pos (starEach [b] X.env)).any (·.1) = false := by rfl) :
    AV (X.suite p ((p, oe) :: pn)) (.Call (.Name "isinstance" p0) [a, b] [] pos) ρ A (.bl false) :=
  av_callB (call_isET C hz.zc hf) hg hm (by decide +kernel) ha (fun vs H r l Q q => by
    obtain ⟨v, v', rfl, r1, r2⟩ := rps2 r
    obtain ⟨tp, cs, rfl, h1, h2⟩ := r2.tup_of
    rw [r1.ref_of]
    refine ⟨tp, cs, Cs.map Value.ref, false, rfl, h1, clsv h2, kitAny_none fun c hc => ?_, q _ H (TS.refl H) (.bl _) l⟩
    rw [List.mem_map] at hc
    obtain ⟨c', hc', rfl⟩ := hc
    exact hk c' hc') (he := hs) (hpl := hpl)
end
end C7
namespace C7
open PySem PySem.Spec PyProof.Rows L2
/-! ### texts -/
/-- a whole number, written -/
def tx (i : Int) : Str := Str.ofString (toString i)
section
variable {X : Cx} {ρ : Ro} {A : AH} {pos p0 apos cpos : Pos} {k : AK} {a b e o : Expr} {x y : Str} {d d1 : D} {ds : List D}
theorem dec_VS : decide (V.str x = V.str y) = decide (x = y) := by
  by_cases h : x = y
  · subst h; simp
  · rw [decide_eq_false h, decide_eq_false fun e => h (V.str.inj e)]
theorem cmpEqS : ∀ v u H, Rp X.K H v (.str x) → Rp X.K H u (.str y) → Rel X.K A H → ∀ Q : VK, (∀ H', TS H H' → Rel X.K A H' → Q (.bl (decide (x = y))) H') → rEq v u H Q := fun v u H r1 r2 l Q q => by
  rw [r1.str_of, r2.str_of]
  refine ⟨rfl, ?_⟩
  rw [dec_VS]
  exact q H (TS.refl H) l
theorem cmpNeS : ∀ v u H, Rp X.K H v (.str x) → Rp X.K H u (.str y) → Rel X.K A H → ∀ Q : VK, (∀ H', TS H H' → Rel X.K A H' → Q (.bl (!decide (x = y))) H') → rNe v u H Q := fun v u H r1 r2 l Q q => by
  rw [r1.str_of, r2.str_of]
  refine ⟨rfl, ?_⟩
  rw [dec_VS]
  exact q H (TS.refl H) l
theorem at_eqS (ha : AV X a ρ A (.str x)) (hb : AV X b ρ A (.str y)) : AT X (.Compare a [.Eq] [b] pos) ρ A (decide (x = y)) := at_cmp op_eq (nomark _) ha hb cmpEqS
theorem at_neS (ha : AV X a ρ A (.str x)) (hb : AV X b ρ A (.str y)) : AT X (.Compare a [.NotEq] [b] pos) ρ A (!decide (x = y)) := at_cmp op_ne (nomark _) ha hb cmpNeS
theorem av_catS (ha : AV X a ρ A (.str x)) (hb : AV X b ρ A (.str y)) (hz : x.length + y.length ≤ sizeLine) : AV X (.BinOp a .Add b pos) ρ A (.str (x ++ y)) :=
  av_op op_add_str ha hb fun v u H r1 r2 l Q q => by
    rw [r1.str_of, r2.str_of]
    exact ⟨x, y, rfl, rfl, hz, q _ H (TS.refl H) (.str _) l⟩
theorem av_lenS (hg : Gl X "len") (hm : X.mg "len" = none) (h : AV X a ρ A (.str x)) (hz : x.length ≤ sizeLine) (hs : starEach [a] X.env = [(false, eval a X.env)] := by rfl) : AV X (.Call (.Name "len" p0) [a] [] pos) ρ A (.int (x.length : Nat)) :=
  av_callB call_len_str hg hm PySem.boot_len (avs_cons h avs_nil hs) (fun vs H r l Q q => by
    obtain ⟨v, rfl, r1⟩ := rps1 r
    rw [r1.str_of]
    exact ⟨x, rfl, hz, q _ H (TS.refl H) (.int _) l⟩) (he := hs) (hpl := rfl)
theorem av_strI {i : Int} (hg : Gl X "str") (hm : X.mg "str" = none) (h : AV X a ρ A (.int i)) (hz : i.natAbs.log2 < 1920) (hs : starEach [a] X.env = [(false, eval a X.env)] := by rfl) : AV X (.Call (.Name "str" p0) [a] [] pos) ρ A (.str (tx i)) :=
  AE.av (ae_callTy call_str_int hg hm (by decide +kernel) (aes_cons (h.ae (aes_nil (fun vs H r l Q q => by
    obtain ⟨v, rfl, r1⟩ := rps1 r
    rw [r1.int_of]
    exact ⟨i, rfl, hz, q _ H _ A (TS.refl H) (.str _) l ⟨rfl, Ext.refl A⟩⟩))) hs) (he := hs) (hpl := rfl))
theorem av_intS {i : Int} (hg : Gl X "int") (hm : X.mg "int" = none) (h : AV X a ρ A (.str x)) (hi : PySem.intText? x = some i) (hz : x.length ≤ 640) (hs : starEach [a] X.env = [(false, eval a X.env)] := by rfl) : AV X (.Call (.Name "int" p0) [a] [] pos) ρ A (.int i) :=
  AE.av (ae_callTy call_int_str hg hm (by decide +kernel) (aes_cons (h.ae (aes_nil (fun vs H r l Q q => by
    obtain ⟨v, rfl, r1⟩ := rps1 r
    rw [r1.str_of]
    exact ⟨x, i, rfl, hi, hz, q _ H _ A (TS.refl H) (.int _) l ⟨rfl, Ext.refl A⟩⟩))) hs) (he := hs) (hpl := rfl))
theorem av_ixS {i : Int} {c : Nat} (ha : AV X a ρ A (.str x)) (hb : AV X b ρ A (.int i)) (h0 : 0 ≤ i) (h1 : i < 2 ^ 63) (hc : x.cps[i.toNat]? = some c) (hs : PlainIxT b := by intro _ _; rfl) : AV X (.Subscript a b pos) ρ A (.str ⟨#[c]⟩) := fun σ H s Q q =>
  tm_of (pe_item_str (pe_tm a) (pe_tm b) hs) (ha σ H s _ fun v H1 t1 r1 l1 => hb σ H1 (s.mono t1 l1) _ fun u H2 t2 r2 l2 => by
    rw [r2.int_of, r1.str_of]
    have hl : i.toNat < x.cps.size := (Array.getElem?_eq_some_iff.mp hc).1
    exact ⟨x, i, c, rfl, rfl, h0, h1, by show i < ((x.cps.size : Nat) : Int); omega, hc, q _ H2 (t1.trans t2) (.str _) l2⟩)
theorem av_slS {lo hi : Option Expr} {lo' hi' : Option Int} {p2 : Pos} (h : AV X e ρ A (.str x)) (hz : x.length ≤ sizeLine) (hlo : AO' X lo ρ A lo') (hhi : AO' X hi ρ A hi') : AV X (.Subscript e (.Slice lo hi none p2) pos) ρ A (.str (cutS x lo' hi')) := fun σ H s Q q =>
  tm_of (pe_slice sl_str (pe_tm e) (po_tm lo) (po_tm hi)) (h σ H s _ fun v H1 t1 r1 l1 => by
    refine hlo.run (s.mono t1 l1) fun H2 t2 l2 => hhi.run ((s.mono t1 l1).mono t2 l2) fun H3 t3 l3 => ?_
    rw [r1.str_of]
    exact ⟨x, rfl, hz, q _ _ ((t1.trans t2).trans t3) (.str _) l3⟩)
theorem at_notInSg {c : Nat} (ha : AV X a ρ A (.str ⟨#[c]⟩)) (hb : AV X b ρ A (.str y)) (hm : behindInMarks .NotIn b = false := by rfl) : AT X (.Compare a [.NotIn] [b] pos) ρ A (!decide (c ∈ y.cps.toList)) :=
  at_cmp op_notIn_sign hm ha hb fun v u H r1 r2 l Q q => by
    rw [r1.str_of, r2.str_of]
    exact ⟨c, y, rfl, rfl, q H (TS.refl H) l⟩
/-! methods of texts -/
variable {id : String} {name : Str} {r : V → List V → Hp → VK → Prop}
theorem av_m1 (slot : Slot "str" name id) (ty : typeOf (.builtin id) = pure (.type "method_descriptor")) (rule : MtR X id r) (ho : AV X o ρ A (.str x)) (he : AV X e ρ A d1)
    (hr : ∀ v H, Rp X.K H v d1 → Rel X.K A H → ∀ Q : VK, (∀ u H', TS H H' → Rp X.K H' u d → Rel X.K A H' → Q u H') → r (.str x) [v] H Q)
    (hs : starEach [e] X.env = [(false, eval e X.env)] := by rfl) (hbase : attributeBase o name X.env (eval o X.env) = eval o X.env := by rfl) (hline : (apos.endLine == cpos.line) = true := by rfl) : AV X (.Call (.Attribute o name apos) [e] [] cpos) ρ A d := fun σ H s Q q =>
  tm_of (pe_m1 slot ty rule (pe_tm o) (pe_tm e) hs hbase hline) (ho σ H s _ fun v H1 t1 r1 l1 => ⟨⟨x, r1.str_of⟩, he σ H1 (s.mono t1 l1) _ fun u H2 t2 r2 l2 => by
    rw [r1.str_of]
    exact hr u H2 r2 l2 Q fun z H' t3 r3 l3 => q z H' ((t1.trans t2).trans t3) r3 l3⟩)
theorem ae_m1 (slot : Slot "str" name id) (ty : typeOf (.builtin id) = pure (.type "method_descriptor")) (rule : MtR X id r) (ho : AV X o ρ A (.str x)) (he : AV X e ρ A d1)
    (hr : ∀ v H, Rp X.K H v d1 → Rel X.K A H → ∀ Q : VK, (∀ u H' d A', TS H H' → Rp X.K H' u d → Rel X.K A' H' → k d A' → Q u H') → r (.str x) [v] H Q)
    (hs : starEach [e] X.env = [(false, eval e X.env)] := by rfl) (hbase : attributeBase o name X.env (eval o X.env) = eval o X.env := by rfl) (hline : (apos.endLine == cpos.line) = true := by rfl) : AE X (.Call (.Attribute o name apos) [e] [] cpos) ρ A k := fun σ H s Q q =>
  tm_of (pe_m1 slot ty rule (pe_tm o) (pe_tm e) hs hbase hline) (ho σ H s _ fun v H1 t1 r1 l1 => ⟨⟨x, r1.str_of⟩, he σ H1 (s.mono t1 l1) _ fun u H2 t2 r2 l2 => by
    rw [r1.str_of]
    exact hr u H2 r2 l2 Q fun z H' d A' t3 r3 l3 k3 => q z H' d A' ((t1.trans t2).trans t3) r3 l3 k3⟩)
theorem av_starts (ho : AV X o ρ A (.str x)) (he : AV X e ρ A (.str y)) (hs : starEach [e] X.env = [(false, eval e X.env)] := by rfl) (hbase : attributeBase o "startswith" X.env (eval o X.env) = eval o X.env := by rfl) (hline : (apos.endLine == cpos.line) = true := by rfl) :
    AV X (.Call (.Attribute o "startswith" apos) [e] [] cpos) ρ A (.bl (Txt.startswith x y)) :=
  av_m1 PySem.F.slot_str_startswith PySem.F.type_str_startswith mt_startswith ho he (fun v H r1 l Q q => by
    rw [r1.str_of]
    exact ⟨x, y, rfl, rfl, q _ H (TS.refl H) (.bl _) l⟩) hs hbase hline
theorem av_parts (ho : AV X o ρ A (.str x)) (he : AV X e ρ A (.str y)) (h0 : (y.length == 0) = false) (hz : x.length ≤ sizeLine) (hs : starEach [e] X.env = [(false, eval e X.env)] := by rfl) (hbase : attributeBase o "partition" X.env (eval o X.env) = eval o X.env := by rfl) (hline : (apos.endLine == cpos.line) = true := by rfl) :
    AV X (.Call (.Attribute o "partition" apos) [e] [] cpos) ρ A (.tup [.str (Txt.partition x y).1, .str (Txt.partition x y).2.1, .str (Txt.partition x y).2.2]) :=
  av_m1 PySem.F.slot_str_partition PySem.F.type_str_partition mt_partition ho he (fun v H r1 l Q q => by
    rw [r1.str_of]
    exact ⟨x, y, rfl, rfl, h0, hz, fun p hp => q _ _ (TS.new hp) (tup_ok (.cons (.str _) (.cons (.str _) (.cons (.str _) .nil))) hp) (l.newT hp)⟩) hs hbase hline
theorem rps_strs {K : Frag} {H : Hp} : ∀ ys : List Str, Rps K H (ys.map V.str) (ys.map D.str)
  | [] => .nil
  | y :: ys => .cons (.str y) (rps_strs ys)
theorem al_split (ho : AV X o ρ A (.str x)) (he : AV X e ρ A (.str y)) (h0 : (y.length == 0) = false) (hz : x.length + 2 ≤ sizeLine) (hs : starEach [e] X.env = [(false, eval e X.env)] := by rfl) (hbase : attributeBase o "split" X.env (eval o X.env) = eval o X.env := by rfl) (hline : (apos.endLine == cpos.line) = true := by rfl) :
    AL X (.Call (.Attribute o "split" apos) [e] [] cpos) ρ A ((Txt.split x y).map D.str) := fun k kq =>
  ae_m1 PySem.F.slot_str_split PySem.F.type_str_split mt_split ho he (fun v H r1 l Q q => by
    rw [r1.str_of]
    exact ⟨x, y, rfl, rfl, h0, hz, fun p hp => q _ _ _ _ (TS.new hp) (.ref p) (l.newL hp (rps_strs _)).2 (kq p (l.none hp))⟩) hs hbase hline
theorem av_split (ho : AV X o ρ A (.str x)) (he : AV X e ρ A (.str y)) (h0 : (y.length == 0) = false) (hz : x.length + 2 ≤ sizeLine) (hs : starEach [e] X.env = [(false, eval e X.env)] := by rfl) (hbase : attributeBase o "split" X.env (eval o X.env) = eval o X.env := by rfl) (hline : (apos.endLine == cpos.line) = true := by rfl) :
    AV X (.Call (.Attribute o "split" apos) [e] [] cpos) ρ A (.fz ((Txt.split x y).map D.str)) := (al_split ho he h0 hz hs hbase hline).av
theorem av_join {ys : List Str} (ho : AV X o ρ A (.str x)) (he : AV X e ρ A d1) (hl : IsL A d1 (ys.map D.str)) (hz : (ys.map (·.length)).sum + ys.length * x.length ≤ 16777216) (hs : starEach [e] X.env = [(false, eval e X.env)] := by rfl) (hbase : attributeBase o "join" X.env (eval o X.env) = eval o X.env := by rfl) (hline : (apos.endLine == cpos.line) = true := by rfl) :
    AV X (.Call (.Attribute o "join" apos) [e] [] cpos) ρ A (.str (Str.join x ys)) := by
  rw [← TL.join_eq]
  exact av_m1 PySem.F.slot_str_join PySem.F.type_str_join mt_join ho he (fun v H r1 l Q q => by
    obtain ⟨p, vs, rfl, h1, h2⟩ := hl.sq r1 l
    rw [h2.strs] at h1
    exact ⟨x, p, ys, rfl, rfl, .inl h1, hz, q _ H (TS.refl H) (.str _) l⟩) hs hbase hline
/-! a walk over a text -/
variable {tg : Expr} {kI : AH → (AH → Prop) → Nat → (Nat → D) → Prop}
theorem wk_str {K : Frag} {H0 : Hp} (x : Str) : Wk K H0 (Its x) (fun _ => True) x.cps.size (fun i => .str ⟨#[x.cps.getD i 0]⟩) where
  go := fun i H A h t r g => h
  yl := fun i H A v H' h t r g y => by
    obtain ⟨rfl, c, hc, rfl⟩ := y
    refine ⟨TS.refl _, r, ?_⟩
    have e : x.cps.getD i 0 = c := by rw [Array.getD_eq_getD_getElem?, hc]; rfl
    rw [e]
    exact .str _
  st := fun H A t r g => Nat.le_refl _
theorem ai_S (h : AV X a ρ A (.str x)) (q : kI A (fun _ => True) x.cps.size (fun i => .str ⟨#[x.cps.getD i 0]⟩)) : AI X tg a ρ A kI := fun σ H s R qq =>
  tmi_of (pi_str (pe_tm a)) (h σ H s _ fun v H1 t1 r1 l1 => ⟨x, r1.str_of, qq _ H1 A _ _ _ t1 l1 (wk_str x) q⟩)
end
end C7
namespace C7
open PySem PySem.Spec PyProof.Rows L2 TL
open NumText (AllDigits digitsVal)
theorem av_globS {X : Cx} {ρ : Ro} {A : AH} {n : Str} {i : Str} {pos : Pos} (hg : Gl X n) (h : ∃ t, X.mg n = some (.str i t)) (hd : (n == ("__debug__" : Str)) = false := by decide) : AV X (.Name n pos) ρ A (.str i) := by
  obtain ⟨t, ht⟩ := h
  exact av_glob hg ht (v := .str i) ⟨t, rfl⟩ (fun _ => .str i) hd
/-! ### several expressions, any of which may raise -/
def AEsx (X : Cx) (W : WX) (es : List Expr) (ρ : Ro) (A : AH) (xc : Value → AH → Prop) (k : List D → AH → Prop) : Prop := ∀ (σ : L2.St) (H : Hp), Sr X.K ρ A σ H → ∀ Q : List V → Hp → Prop, (∀ vs H' ds A', TS H H' → Rps X.K H' vs ds → Rel X.K A' H' → k ds A' → Q vs H') →
  (∀ c H' A', TS H H' → Rel X.K A' H' → xc c A' → W c none σ H') → TMA X es σ H Q
section
variable {X : Cx} {W : WX} {ρ : Ro} {A : AH} {E : AEnds} {e : Expr} {es : List Expr} {pos p0 : Pos} {d : D} {k : AK} {n : Str} {ct : Ct} {lv : Nat} {ds : List D} {xc : Value → AH → Prop} {ks : List D → AH → Prop}
theorem AEs.aesx (h : AEs X es ρ A ks) : AEsx X W es ρ A xc ks := fun σ H s Q q _ => h σ H s Q q
theorem aesx_nil (h : ks [] A) : AEsx X W [] ρ A xc ks := AEs.aesx (aes_nil h)
theorem aesx_cons (h : AEx X W e ρ A xc fun d A1 => AEsx X W es ρ A1 xc fun ds A2 => ks (d :: ds) A2) (hs : isStar e = false := by rfl) : AEsx X W (e :: es) ρ A xc ks := fun σ H s Q q hx =>
  tma_of (pa_cons (pe_tm e) (pa_tm es) (star_cons hs)) (h σ H s _ (fun v H1 d A1 t1 r1 l1 h1 => h1 σ H1 (s.mono t1 l1) _ (fun vs H2 ds A2 t2 r2 l2 h2 => q (v :: vs) H2 (d :: ds) A2 (t1.trans t2) (.cons (r1.mono t2) r2) l2 h2) fun c H' A' t l z => hx c H' A' (t1.trans t) l z) fun c H' A' t l z => hx c H' A' t l z)
theorem aex_tup {x1 : Nat} (h : AEsx X W es ρ A xc fun ds A1 => ds.length ≤ sizeLine ∧ k (.tup ds) A1) : AEx X W (.Tuple es x1 pos) ρ A xc k := fun σ H s Q q hx =>
  tm_of (pe_tup (pa_tm es)) (h σ H s _ (fun vs H1 ds A1 t1 r1 l1 h1 => ⟨by rw [r1.length]; exact h1.1, fun p hp => q (.ref p) _ (.tup ds) A1 (t1.trans (TS.new hp)) (tup_ok r1 hp) (l1.newT hp) h1.2⟩) hx)
end
/-! ### whole numbers, written and read -/
def wl (i : Int) : List Nat := if i < 0 then 45 :: numL i.natAbs else numL i.natAbs
theorem tl_tx (i : Int) : tl (tx i) = wl i := by
  unfold tx wl
  cases i with
  | ofNat n =>
    rw [if_neg (show ¬ Int.ofNat n < 0 by have := Int.natCast_nonneg n; exact Int.not_lt.mpr this)]
    exact tl_num n
  | negSucc n =>
    rw [if_pos (by omega), tl_ofString]
    have h1 := tl_num (n + 1)
    rw [tl_ofString] at h1
    show (("-" ++ toString (n + 1)).toList).map Char.toNat = _
    rw [String.toList_append, List.map_append]
    show [45] ++ _ = 45 :: numL (n + 1)
    rw [← h1]
    rfl
def figs (l : List Nat) : List Nat := if l.head? = some 45 then l.tail else l
def okW (l : List Nat) : Prop := figs l ≠ [] ∧ (figs l).length ≤ 100 ∧ AllDigits (figs l) ∧ ((figs l).head? = some 48 → l = [48])
def valW (l : List Nat) : Int := if l.head? = some 45 then -((digitsVal l.tail : Nat) : Int) else ((digitsVal l : Nat) : Int)
theorem numL_head : ∀ n : Nat, n ≠ 0 → ∃ c r, numL n = c :: r ∧ c ≠ 48 ∧ 48 ≤ c ∧ c ≤ 57 := by
  intro n
  induction n using Nat.strongRecOn with
  | ind n ih =>
    intro h
    by_cases h10 : n < 10
    · rw [numL_lt h10]
      exact ⟨48 + n, [], rfl, by omega, by omega, by omega⟩
    · obtain ⟨c, r, e, h1⟩ := ih (n / 10) (by omega) (by omega)
      rw [numL_step (by omega), e]
      exact ⟨c, r ++ [48 + n % 10], rfl, h1⟩
theorem numL_zero : numL 0 = [48] := numL_lt (by decide)
theorem numL_cons (n : Nat) : ∃ c r, numL n = c :: r ∧ 48 ≤ c ∧ c ≤ 57 := by
  by_cases h : n = 0
  · subst h; exact ⟨48, [], numL_zero, by decide, by decide⟩
  · obtain ⟨c, r, e, h1⟩ := numL_head n h
    exact ⟨c, r, e, h1.2⟩
theorem figs_wl (i : Int) : figs (wl i) = numL i.natAbs := by
  unfold figs wl
  split
  · rw [if_pos (show (45 :: numL i.natAbs).head? = some 45 from rfl)]; rfl
  · obtain ⟨c, r, e, h1, h2⟩ := numL_cons i.natAbs
    rw [e, if_neg (by simp; omega)]
theorem valW_wl (i : Int) : valW (wl i) = i := by
  unfold valW wl
  split
  · rw [if_pos (show (45 :: numL i.natAbs).head? = some 45 from rfl)]
    show -((digitsVal (numL i.natAbs) : Nat) : Int) = i
    rw [numL_val]; omega
  · obtain ⟨c, r, e, h1, h2⟩ := numL_cons i.natAbs
    rw [if_neg (by rw [e]; simp; omega), numL_val]; omega
theorem okW_wl {i : Int} (h : i.natAbs < 10 ^ 100) : okW (wl i) := by
  unfold okW
  rw [figs_wl]
  refine ⟨numL_ne _, numL_len (by decide) h, numL_digits _, fun hh => ?_⟩
  by_cases h0 : i.natAbs = 0
  · have : i = 0 := by omega
    subst this
    exact numL_zero
  · obtain ⟨c, r, e, h1, _⟩ := numL_head _ h0
    rw [e] at hh
    exact absurd (Option.some.inj hh) h1
theorem wl_free {i : Int} {s : Nat} (h : s ≠ 45) (h2 : s < 48 ∨ 57 < s) : s ∉ wl i := by
  unfold wl
  split
  · exact fun hm => (List.mem_cons.mp hm).elim h (numL_free h2)
  · exact numL_free h2
theorem wl_len {i : Int} {m : Nat} (hm : 0 < m) (h : i.natAbs < 2 ^ m) : (wl i).length ≤ m + 1 := by
  have : (numL i.natAbs).length ≤ m := numL_len hm (Nat.lt_of_lt_of_le h (Nat.pow_le_pow_left (by decide) m))
  unfold wl
  split
  · rw [List.length_cons]; omega
  · omega
theorem log_lt {i : Int} {m : Nat} (h : i.natAbs < 2 ^ m) (hm : m ≤ 1920) (h0 : 0 < m) : i.natAbs.log2 < 1920 := by
  by_cases h1 : i.natAbs = 0
  · rw [h1]; decide
  · exact Nat.lt_of_lt_of_le ((Nat.log2_lt h1).mpr h) hm
/-- the value of a read number is what int tells -/
theorem int_ok {x : Str} (h : okW (tl x)) : intText? x = some (valW (tl x)) := by
  obtain ⟨h1, h2, h3, _⟩ := h
  have hl := len_tl x
  unfold figs at h1 h2 h3
  unfold valW
  by_cases hh : (tl x).head? = some 45
  · rw [if_pos hh] at h1 h2 h3 ⊢
    have e : tl x = 45 :: (tl x).tail := by
      cases hc : tl x with
      | nil => rw [hc] at hh; cases hh
      | cons c r => rw [hc] at hh; cases hh; rfl
    exact PySem.intText_neg e h3 h1 (by rw [hl, e, List.length_cons]; omega)
  · rw [if_neg hh] at h1 h2 h3 ⊢
    exact PySem.intText_digits h3 h1 (by rw [hl]; omega)
theorem okW_len {l : List Nat} (h : okW l) : l.length ≤ 101 := by
  have h2 := h.2.1
  unfold figs at h2
  split at h2
  · rw [List.length_tail] at h2; omega
  · omega
theorem digitsVal_lt : ∀ l : List Nat, AllDigits l → digitsVal l < 10 ^ l.length := by
  have key : ∀ (l : List Nat) (a : Nat), AllDigits l → l.foldl (fun acc c => acc * 10 + (c - 48)) a < (a + 1) * 10 ^ l.length := by
    intro l
    induction l with
    | nil => intro a _; simp
    | cons c l ih =>
      intro a h
      have hc := h c (List.mem_cons_self ..)
      have := ih (a * 10 + (c - 48)) fun d hd => h d (List.mem_cons_of_mem _ hd)
      rw [List.foldl_cons, List.length_cons, Nat.pow_succ]
      refine Nat.lt_of_lt_of_le this ?_
      rw [Nat.mul_comm (10 ^ l.length) 10, ← Nat.mul_assoc]
      exact Nat.mul_le_mul_right _ (by omega)
  intro l h
  have := key l 0 h
  unfold digitsVal
  omega
theorem valW_bd {l : List Nat} (h : okW l) : (valW l).natAbs < 2 ^ 340 := by
  obtain ⟨h1, h2, h3, _⟩ := h
  unfold figs at h1 h2 h3
  unfold valW
  have hp : (10 : Nat) ^ 100 < 2 ^ 340 := by decide
  by_cases hh : l.head? = some 45
  · rw [if_pos hh] at h1 h2 h3 ⊢
    have := digitsVal_lt _ h3
    have h5 : (10 : Nat) ^ l.tail.length ≤ 10 ^ 100 := Nat.pow_le_pow_right (by decide) h2
    omega
  · rw [if_neg hh] at h1 h2 h3 ⊢
    have := digitsVal_lt _ h3
    have h5 : (10 : Nat) ^ l.length ≤ 10 ^ 100 := Nat.pow_le_pow_right (by decide) h2
    omega
theorem starts_minus (x : Str) : Txt.startswith x "-" = decide ((tl x).head? = some 45) := by
  unfold Txt.startswith
  rw [StrLaws.subAt_eq]
  have hl := len_tl x
  have e : (("-" : Str)).cps.toList = [45] := rfl
  have e2 : (("-" : Str)).length = 1 := rfl
  rw [e, e2, hl]
  show (decide (0 + 1 ≤ (tl x).length) && (((tl x).drop 0).take 1 == [45])) = _
  cases tl x with
  | nil => rfl
  | cons c r =>
    by_cases hc : c = 45
    · subst hc; simp
    · simp [hc]
theorem tl_cut1 (x : Str) : tl (cutS x (some 1) none) = (tl x).tail := by
  show ((x.cps.toList.drop (HT.sIx x.length 0 (some 1))).take (HT.sIx x.length x.length none - HT.sIx x.length 0 (some 1))) = _
  have hl := len_tl x
  have h1 : HT.sIx x.length 0 (some ((1 : Nat) : Int)) = min 1 x.length := by rw [HT.sIx_nat]
  have h1' : HT.sIx x.length 0 (some (1 : Int)) = min 1 x.length := h1
  rw [h1', HT.sIx_none]
  show ((tl x).drop (min 1 x.length)).take (x.length - min 1 x.length) = _
  rw [hl]
  cases tl x with
  | nil => rfl
  | cons c r => simp
/-! ### a sign in a text -/
theorem first_sign (s : Nat) : ∀ l : List Nat, s ∈ l → ∃ a b, l = a ++ s :: b ∧ s ∉ a
  | [], h => nomatch h
  | c :: l, h => by
    by_cases hc : c = s
    · subst hc; exact ⟨[], l, rfl, fun h => nomatch h⟩
    · obtain ⟨a, b, e, h1⟩ := first_sign s l ((List.mem_cons.mp h).resolve_left fun e => hc e.symm)
      exact ⟨c :: a, b, by rw [e]; rfl, fun hm => (List.mem_cons.mp hm).elim (fun e => hc e.symm) h1⟩
theorem first_uniq {s : Nat} : ∀ {a a' b b' : List Nat}, a ++ s :: b = a' ++ s :: b' → s ∉ a → s ∉ a' → a = a' ∧ b = b'
  | [], [], _, _, h, _, _ => ⟨rfl, by injection h⟩
  | [], c :: a', _, _, h, _, h2 => by
    injection h with e _
    exact absurd (List.mem_cons.mpr (.inl e)) h2
  | c :: a, [], _, _, h, h1, _ => by
    injection h with e _
    exact absurd (List.mem_cons.mpr (.inl e.symm)) h1
  | c :: a, c' :: a', b, b', h, h1, h2 => by
    injection h with e h
    obtain ⟨e1, e2⟩ := first_uniq h (fun hm => h1 (List.mem_cons_of_mem _ hm)) (fun hm => h2 (List.mem_cons_of_mem _ hm))
    exact ⟨by rw [e, e1], e2⟩
/-! ### shares, points, curves as texts -/
def shT (q : Rat) : Str := if q.den = 1 then tx q.num else tx q.num ++ "/" ++ tx (q.den : Int)
def shl (q : Rat) : List Nat := if q.den = 1 then wl q.num else wl q.num ++ 47 :: wl (q.den : Int)
theorem tl_shT (q : Rat) : tl (shT q) = shl q := by
  unfold shT shl
  split
  · exact tl_tx _
  · rw [tl_append, tl_append, tl_tx, tl_tx, List.append_assoc]; rfl
def ptT (p : Pt) : Str := shT p.1 ++ "," ++ shT p.2
def ptl (p : Pt) : List Nat := shl p.1 ++ 44 :: shl p.2
theorem tl_ptT (p : Pt) : tl (ptT p) = ptl p := by
  unfold ptT ptl
  rw [tl_append, tl_append, tl_shT, tl_shT, List.append_assoc]; rfl
def cvT (row : List Pt) : Str := Str.join " " (row.map ptT)
def rdS (l : List Nat) (q : Rat) : Prop := (47 ∉ l ∧ okW l ∧ q.num = valW l ∧ q.den = 1) ∨ ∃ a b, l = a ++ 47 :: b ∧ 47 ∉ a ∧ okW a ∧ okW b ∧ 2 ≤ valW b ∧ q.num = valW a ∧ (q.den : Int) = valW b
def rdP (l : List Nat) (p : Pt) : Prop := ∃ a b, l = a ++ 44 :: b ∧ 44 ∉ a ∧ rdS a p.1 ∧ rdS b p.2
/-- a share of at most a hundred figures above and below -/
def Fg (q : Rat) : Prop := q.num.natAbs < 10 ^ 100 ∧ q.den < 10 ^ 100
def FgP (p : Pt) : Prop := Fg p.1 ∧ Fg p.2
theorem shl_free {q : Rat} {s : Nat} (h : s ≠ 45) (h1 : s ≠ 47) (h2 : s < 48 ∨ 57 < s) : s ∉ shl q := by
  unfold shl
  split
  · exact wl_free h h2
  · intro hm
    rw [List.mem_append, List.mem_cons] at hm
    rcases hm with hm | hm | hm
    · exact wl_free h h2 hm
    · exact h1 hm
    · exact wl_free h h2 hm
theorem ptl_free {p : Pt} {s : Nat} (h : s ≠ 45) (h1 : s ≠ 47) (h3 : s ≠ 44) (h2 : s < 48 ∨ 57 < s) : s ∉ ptl p := by
  unfold ptl
  intro hm
  rw [List.mem_append, List.mem_cons] at hm
  rcases hm with hm | hm | hm
  · exact shl_free h h1 h2 hm
  · exact h3 hm
  · exact shl_free h h1 h2 hm
theorem rd_shl {q : Rat} (h : Fg q) : rdS (shl q) q := by
  unfold shl
  have hd := q.den_pos
  split
  · rename_i hq
    exact .inl ⟨wl_free (by decide) (by decide), okW_wl h.1, (valW_wl _).symm, hq⟩
  · rename_i hq
    exact .inr ⟨_, _, rfl, wl_free (by decide) (by decide), okW_wl h.1, okW_wl (by rw [Int.natAbs_natCast]; exact h.2), by rw [valW_wl]; omega, (valW_wl _).symm, (valW_wl _).symm⟩
theorem rd_ptl {p : Pt} (h : FgP p) : rdP (ptl p) p := ⟨_, _, rfl, shl_free (by decide) (by decide) (by decide), rd_shl h.1, rd_shl h.2⟩
theorem rdS_one {l : List Nat} {q r : Rat} (h : rdS l q) (h' : rdS l r) : q = r := by
  rcases h with ⟨h1, h2, h3, h4⟩ | ⟨a, b, rfl, h1, h2, h3, h4, h5, h6⟩
  · rcases h' with ⟨g1, g2, g3, g4⟩ | ⟨a', b', rfl, _⟩
    · exact rat_ext (h3.trans g3.symm) (h4.trans g4.symm)
    · exact absurd (List.mem_append_right _ (List.mem_cons_self ..)) h1
  · rcases h' with ⟨g1, _⟩ | ⟨a', b', e, g1, g2, g3, g4, g5, g6⟩
    · exact absurd (List.mem_append_right _ (List.mem_cons_self ..)) g1
    · obtain ⟨rfl, rfl⟩ := first_uniq e h1 g1
      exact rat_ext (h5.trans g5.symm) (by have := h6.trans g6.symm; omega)
theorem shT_len {q : Rat} {m : Nat} (hm : 0 < m) (h : Sz m q) : (shT q).length ≤ 2 * m + 3 := by
  rw [len_tl, tl_shT]
  unfold shl
  have h1 := wl_len hm h.num
  have h2 := wl_len hm h.den
  split
  · omega
  · rw [List.length_append, List.length_cons]; omega
theorem ptT_len {p : Pt} {m : Nat} (hm : 0 < m) (h : SzP m p) : (ptT p).length ≤ 4 * m + 7 := by
  unfold ptT
  have h1 := shT_len hm h.1
  have h2 := shT_len hm h.2
  rw [len_tl] at h1 h2 ⊢
  rw [tl_append, tl_append, List.length_append, List.length_append]
  have : (tl (",") : List Nat).length = 1 := rfl
  omega
theorem sum_len {xs : List Str} {b : Nat} (h : ∀ x ∈ xs, x.length ≤ b) : (xs.map (·.length)).sum ≤ xs.length * b := by
  induction xs with
  | nil => simp
  | cons x xs ih =>
    rw [List.map_cons, List.sum_cons, List.length_cons, Nat.succ_mul]
    have h1 := h x (List.mem_cons_self ..)
    have h2 := ih fun y hy => h y (List.mem_cons_of_mem _ hy)
    omega
theorem joinL_len (S : List Nat) : ∀ xs : List (List Nat), (joinL S xs).length ≤ (xs.map List.length).sum + xs.length * S.length
  | [] => by simp [joinL]
  | [x] => by simp [joinL]
  | x :: y :: r => by
    have ih := joinL_len S (y :: r)
    simp only [joinL, List.length_append, List.map_cons, List.sum_cons, List.length_cons, Nat.succ_mul] at ih ⊢
    omega
theorem join_len {y : Str} {xs : List Str} {b : Nat} (h : ∀ x ∈ xs, x.length ≤ b) : (Str.join y xs).length ≤ xs.length * (b + y.length) := by
  rw [len_tl, tl_join]
  refine Nat.le_trans (joinL_len _ _) ?_
  have h1 := sum_len h
  have e1 : (xs.map tl).map List.length = xs.map (·.length) := by rw [List.map_map]; exact List.map_congr_left fun x _ => (len_tl x).symm
  rw [e1, List.length_map, ← len_tl y, Nat.mul_add]
  omega
theorem cvT_len {row : List Pt} {m : Nat} (hm : 0 < m) (h : ∀ p ∈ row, SzP m p) : (cvT row).length ≤ row.length * (4 * m + 8) := by
  unfold cvT
  have := join_len (y := " ") (xs := row.map ptT) (b := 4 * m + 7) fun x hx => by
    obtain ⟨p, hp, rfl⟩ := List.mem_map.mp hx
    exact ptT_len hm (h p hp)
  rw [List.length_map] at this
  exact this
theorem all256 {y : Str} {l : List Nat} (h : tl y = l) (hl : l.all (· < 256) = true) : y.cps.all (· < 256) = true := by
  rw [← Array.all_toList]
  show (tl y).all _ = true
  rw [h]; exact hl
theorem split_cv {row : List Pt} (h : row ≠ []) : Txt.split (cvT row) " " = row.map ptT := by
  unfold cvT
  rw [← join_eq]
  refine split_join (y := " ") (s := 32) (S := []) rfl (all256 (l := [32]) rfl rfl) (by simpa using h) fun p hp => ?_
  obtain ⟨q, _, rfl⟩ := List.mem_map.mp hp
  rw [tl_ptT]
  exact ptl_free (by decide) (by decide) (by decide) (by decide)
end C7
namespace C7
open PySem PySem.Spec PyProof.Rows L2
/-! ### a list comprehension whose element, a call, may raise -/
abbrev bx (X : Cx) (s : Shared) (H : Hp) (scope : Scope) (ce : Env) (fp : List Addr) (xe : Value → Shared → Prop) : Cx := (X.blk s H scope ce fp).wish xe
theorem ff_base {h B B' : Heap} (k : ∀ b, B.get? b = none → B'.get? b = none) : ∀ {l : List Env}, h.FunFrames B l → h.FunFrames B' l
  | [], _ => trivial
  | _ :: _, ⟨a, ⟨L, o, f, n, r⟩, t⟩ => ⟨a, ⟨L, o, f, k L n, r⟩, ff_base k t⟩
theorem hide_none {h : Heap} {c b : Addr} (e : h.get? b = none) : (PySem.W.hideAll h [c]).get? b = none := by
  cases q : (PySem.W.hideAll h [c]).get? b with
  | none => rfl
  | some o => rw [PySem.W.of_hideAll _ q] at e; cases e
theorem hide_ne {h : Heap} {c b : Addr} {o : Obj} (e : (PySem.W.hideAll h [c]).get? b = some o) : b ≠ c := fun z => by
  rw [z, PySem.W.hideAll_none [c] (by simp)] at e
  cases e
section
variable {X : Cx} {W : WX} {pins : List (Addr × Obj)} {σ : L2.St} {H3 : Hp} {s3 : Shared} {fp : List Addr} {ce : Env} {scope : Scope} {xe : Value → Shared → Prop}
/-- what a call in the element let out: noted in the def's frame, the block let go, on its way -/
theorem lc_flies (hst : X.stack = X.env :: X.outer) (hf : X.env.frame = some X.env.locals) (tk : L2N.Takes X W) (I3 : Inv X pins σ H3 s3) (f3 : ∀ b ∈ fp, FpOk X pins H3 b) (hC : ce.locals = s3.heap.objs.size) (hcf : ce.frame = X.env.frame)
    {pn : List (Addr × Obj)} {τ : L2.St} {Hy : Hp} {s s' : Shared} {u : Value} (J0 : Inv (bx X s3 H3 scope ce fp xe) pn τ Hy s) (c : L2N.CX X.prog X.w X.stack Hy s (fun cl d H' => W cl d σ H') u s') :
    notedBy (model X.prog X.w) X.A ce (CompFails (model X.prog X.w) X.A X.xe ce) u s' := by
  obtain ⟨a1, B1, G1, c1, d1, e1, fl1, _⟩ := id c
  obtain ⟨a, B, sI, pn', τ', H', cls, d, e2, J, nb, up, sky, na, os, ag, w⟩ := L2N.XE.of_call (W := fun cl d _ H' => W cl d σ H') J0 (fun _ _ _ h => h) c
  have ea : a1 = a := by
    rw [e1] at e2
    cases e2
    rfl
  subst ea
  subst e2
  obtain ⟨_, _, _, oe1, vs1, T1, oT1, ts1, he1, _, hd1, hv1, _, _, hT1, ht1, hx1⟩ := fl1
  have fl : HandSPX.FlyingZ B X.stack a1 (L2N.Zn cls d) s'.heap := by
    rcases sky with ⟨_, _, _, oe, vs, he, _, hd, h1⟩ | fl | ⟨_, _, _, oe, vs, T, oT, ts, he, _, hd, h1, _, _, hT, hdT, h3⟩
    · rw [he1] at he
      cases he
      rw [hd1] at hd
      cases hd
      rw [hv1] at h1
      cases h1
    · exact fl
    · rw [he1] at he
      cases he
      rw [hd1] at hd
      cases hd
      rw [hv1] at h1
      cases h1
      rw [hT1] at hT
      cases hT
      rw [ht1] at hdT
      cases hdT
      rw [hx1] at h3
      cases h3
  rw [hst] at fl
  show wpAny _ X.A (noteFrame (.ref a1) ce) _ _ s'
  rw [noteFrame_env _ hcf]
  refine PXN.looks_onZ L2N.Zn.steady (by rw [I3.ok.frames, hst]) hf fl fun h1 hh up1 => ?_
  obtain ⟨m, hn, _⟩ := J.loc
  have hn : sI.heap.Ns ce.locals m := hn
  have hn1 : h1.Ns ce.locals m := hn.upToSlots (up.trans up1)
  refine ⟨m, hn1, fun h2 m2 hn2 sb => ?_⟩
  have sb : Heap.SameBut ce.locals h1 h2 := sb
  obtain ⟨k1, k2, k3, oe, vs, T, oT, ts, he, hz, hd, hv, nT, nTe, hT, hdT, hts⟩ := hh
  obtain ⟨oL, es, ep, hoL, hdL, _⟩ := id hn1
  have neE : a1 ≠ ce.locals := fun z => by
    rw [z, hoL] at he
    cases he
    rw [hdL] at hd
    cases hd
  have neT : T ≠ ce.locals := fun z => by
    rw [z, hoL] at hT
    cases hT
    rw [hdL] at hdT
    cases hdT
  have held : HandSPX.HeldZ (PySem.W.hideAll B [ce.locals]) (X.env :: X.outer) a1 (L2N.Zn cls d) X.env.locals h2 :=
    ⟨fun b o e => (sb.2 b (hide_ne e)).trans (k1 b o (PySem.W.of_hideAll _ e)), hide_none k2, ff_base (fun _ => hide_none) (Heap.FunFrames.sameBut sb hn2 k3),
      oe, vs, T, oT, ts, (sb.2 _ neE).trans he, hz, hd, hv, hide_none nT, nTe, (sb.2 _ neT).trans hT, hdT, hts⟩
  have I7 : Inv X pins σ H' sI := I3.call' (ch := fp) J.os J.base J.hok J.bare fun b hb => let ⟨_, x2, _, x4, x5, x6⟩ := f3 b hb; ⟨x4, x2, x5, x6⟩
  obtain ⟨f0, f1, _, f4, f5, f6⟩ := I3.fpOk (b := ce.locals) (H' := H') (Nat.le_of_eq hC.symm) J.free
  have JX := I7.turned (t' := sI.toks) (h' := PySem.W.hideAll sI.heap [ce.locals]) (fun b o hb e => PySem.W.hideAll_get _ e (by simpa using hb)) f0 f1 f4 f5 f6
  have e2' : h2.get? a1 = some oe := (sb.2 _ neE).trans he
  unfold PySem.passOn
  refine wpAny_bind (wpAny_field e2' hd hv ?_)
  rw [if_neg (show ¬ ((Value.ref T == Value.none) = true) from by simp), hcf, hf]
  refine wpAny_bind (HandSPX.setFlight_onZ held fun h4 hh4 up4 => wpAny_throw (tk _ _ ?_))
  refine ⟨a1, PySem.W.hideAll B [ce.locals], _, pins, σ, H', cls, d, rfl, JX, fun b o e hb => ?_, fun b o e hnf => ?_, .inr (.inr (by rw [hst]; exact hh4)), na, os, ag, w⟩
  · exact PySem.W.hideAll_get _ (nb b o (PySem.W.of_hideAll _ e) hb) (by simpa using hide_ne e)
  · obtain ⟨sl, e1⟩ := (up.trans up1) b o (PySem.W.of_hideAll _ e) hnf
    exact up4 b _ ((sb.2 b (hide_ne e)).trans e1) hnf |>.imp fun _ x => x
/-- [f(..) for tg in iter], the call may raise -/
theorem pe_lcX {elt tg iter : Expr} {own : List (Str × Nat)} {pos : Pos} {wi : TI} {g : TG} {te : L2.St → TE} (hst : X.stack = X.env :: X.outer) (hf : X.env.frame = some X.env.locals) (hc : X.calm = true) (hN : X.N.Nodup) (tk : L2N.Takes X W) (hi : PI X tg iter wi) (ok : BlkOk X.N X.env.scope scope own)
    (hg : ∀ (s : Shared) (H : Hp) (C : Addr) (cl : List (Str × Addr)) (fp : List Addr) (xe : Value → Shared → Prop), PG (bx X s H scope (compEnvC scope cl C X.env) fp xe) tg g)
    (he : ∀ (σ : L2.St) (s : Shared) (H : Hp) (C : Addr) (cl : List (Str × Addr)) (fp : List Addr) (xe : Value → Shared → Prop), (∀ τ, PassesAt (L2N.CX X.prog X.w) (bx X s H scope (compEnvC scope cl C X.env) fp xe) τ (fun c d H' => W c d σ H')) → PE (bx X s H scope (compEnvC scope cl C X.env) fp xe) elt (te σ))
    (hs : ∀ x, foldedSetIterable iter X.env x = pure x := by intro _; rfl) :
    PE X (.ListComp elt [⟨tg, iter, [], 0⟩] scope pos) (fun σ H Q => tLc wi g tYes (te σ) (own.map (·.2)) σ H Q) := by
  refine ⟨fun pins s σ H Q I h => ?_⟩
  have caught : ∀ y ∈ scope.names, y.2 = .free → ∃ c, X.env.cells.lookup y.1 = some c := fun y hy e => (ok.free y hy e).elim (fun k => I.ok.has _ (.inl k)) fun k => I.ok.has _ (.inr k)
  rw [eval_ListComp]
  refine comprehension_at (use := none) rfl hs (closure_ok caught) ok.kind (fun y hy e => (ok.uniq y hy).trans (by rw [e])) (thn (hi.run pins s σ H _ I h) fun xv sa ha => thn ha fun itv sb hb => ?_)
  obtain ⟨p, fp, stand, J, G2, ep, K2, T, at0, away, q⟩ := hb
  subst ep
  refine wpAny_newObj_type (newEnv_comp ?_) (by show 0 ≤ sizeLine; decide)
  generalize hD : sb.heap.objs.size = D
  obtain ⟨M, ⟨m0, w0⟩, turn⟩ := q D (K2.hok.fresh (Nat.le_of_eq hD))
  generalize hsc : ({ sb with heap := sb.heap.push { cls := .type "list", data := .seq ([] : List Value).toArray } } : Shared) = sc
  have hsc' : sc.heap = sb.heap.push { cls := .type "list", data := .seq ([] : List Value).toArray } := by rw [← hsc]
  have K3 : Inv X pins σ (upd G2 D (.lst [])) sc := by
    rw [← hsc]
    exact K2.laid (t' := sb.toks) (fun b o e => Heap.get?_push_of_some _ e) (Nat.le_of_eq hD) ⟨Nat.zero_le _, [], 0, .nil, by rw [← hD]; exact Heap.get?_push_size _ rfl⟩
  have small : ∀ b ∈ fp, b < sb.heap.objs.size := fun b hb => let ⟨_, e, _⟩ := T.obj _ _ at0 b hb; Heap.lt_size e
  have f3 : ∀ b ∈ fp, FpOk X pins (upd G2 D (.lst [])) b := fun b hb => ⟨by rw [upd_ne (by rw [← hD]; exact Nat.ne_of_lt (small b hb))]; exact (away b hb).1, (away b hb).2⟩
  have at3 : stand 0 sc.heap := T.keep _ _ _ at0 fun b _ o e => by rw [hsc']; exact Heap.get?_push_of_some _ e
  have K4 := block_start K3 ok hN fun b hb => ⟨f3 b hb, Nat.lt_of_lt_of_le (small b hb) (by rw [hsc', Heap.size_push]; exact Nat.le_succ _)⟩
  generalize hH3 : upd G2 D (.lst []) = H3 at K3 K4 w0 f3
  generalize hcl : cellsFrom (sc.heap.objs.size + 1) scope.names (cloFrom X.env.cells scope.names []) = cl at K4
  have hsz : sc.heap.objs.size = (compEnvC scope cl sc.heap.objs.size X.env).locals := rfl
  have pe := he σ sc H3 sc.heap.objs.size cl fp (notedBy (model X.prog X.w) X.A (compEnvC scope cl sc.heap.objs.size X.env) (CompFails (model X.prog X.w) X.A X.xe (compEnvC scope cl sc.heap.objs.size X.env)))
    fun τ pn Hy s1 u s2 J0 c => lc_flies (ce := compEnvC scope cl sc.heap.objs.size X.env) hst hf tk K3 f3 rfl rfl J0 c
  have pg := hg sc H3 sc.heap.objs.size cl fp (notedBy (model X.prog X.w) X.A (compEnvC scope cl sc.heap.objs.size X.env) (CompFails (model X.prog X.w) X.A X.xe (compEnvC scope cl sc.heap.objs.size X.env)))
  show codeAny _ _ (.compStart (.ListComp elt [⟨tg, iter, [], 0⟩] scope pos) 0 (.ref p) (.ref D) (compEnvC scope cl sc.heap.objs.size X.env))
    (compEnds (model X.prog X.w) X.A X.xe none (EP X pins σ Q) (.ref D) (compEnvC scope cl sc.heap.objs.size X.env)) { sc with heap := pushCells (sc.heap.push { cls := .type "dict", data := .dict #[] }) scope.names }
  generalize hce : compEnvC scope cl sc.heap.objs.size X.env = ce at K4 pe pg hsz ⊢
  generalize hxe : notedBy (model X.prog X.w) X.A ce (CompFails (model X.prog X.w) X.A X.xe ce) = xe at pe pg
  have free3 : ∀ b ∈ fp, H3 b = none := fun b hb => (f3 b hb).1
  generalize hs0 : ({ sc with heap := pushCells (sc.heap.push { cls := .type "dict", data := .dict #[] }) scope.names } : Shared) = s0 at K4 ⊢
  have at4 : stand 0 s0.heap := T.keep _ _ _ at3 fun b _ o e => by rw [← hs0]; exact pushCells_keeps _ _ _ _ (Heap.get?_push_of_some _ e)
  have K5 : Inv (bx X sc H3 scope ce fp xe) [] (wipe σ (own.map (·.2))) H3 s0 := ⟨K4.ok.wish _, K4.os, K4.bare, K4.base, K4.loc, K4.cell, K4.free, K4.freeC, K4.pin, K4.hok, K4.len⟩
  have inBlock : ∀ {τ : L2.St} {G : Hp} {t : Shared}, Inv (bx X sc H3 scope ce fp xe) [] τ G t → (∀ b ∈ fp, G b = none) → ∀ b ∈ fp, FpOk (bx X sc H3 scope ce fp xe) [] G b := fun {τ G t} K n b hb =>
    ⟨n b hb, (K.ok.exf b hb).1, K.ok.exfs b hb, .inl hb, fun x c e => (K.ok.exf b hb).2 x c e, fun z hz => absurd (show z ∈ ([] : List (Addr × Obj)) ++ [] from hz) (by simp)⟩
  have loop : codeAny (model X.prog X.w) X.A (.compLoop (.ListComp elt [⟨tg, iter, [], 0⟩] scope pos) 0 (.ref p) (.ref D) ce) (compEnds (model X.prog X.w) X.A X.xe none (EP X pins σ Q) (.ref D) ce) s0 := by
    refine compLoop_any (fun n t => ∃ i G, Inv (bx X sc H3 scope ce fp xe) [] (wipe σ (own.map (·.2))) G t ∧ stand i t.heap ∧ (∀ b ∈ fp, G b = none) ∧ M i n G) ?_ m0 ⟨0, H3, K5, at4, free3, w0⟩
    rintro n t5 ⟨i, G5, K5, at5, n5, w5⟩
    have raised : (notedBy (model X.prog X.w) X.A ce fun e s' => compEnds (model X.prog X.w) X.A X.xe none (EP X pins σ Q) (.ref D) ce (.error e) s') = xe := by
      rw [← hxe]
      rfl
    rw [raised]
    rcases turn i n G5 w5 with ⟨stop, fin⟩ | ⟨more, Nx, hNx, step⟩
    · refine thnF (T.done (bx X sc H3 scope ce fp xe) rfl rfl rfl hc i [] t5 _ G5 (fun _ _ => False) K5 (inBlock K5 n5) at5 stop) fun r t6 ⟨hr, K6⟩ => ?_
      subst hr
      have K7 : Inv X pins σ G5 t6 := K3.call' (ch := fp) K6.os K6.base K6.hok K6.bare fun b hb => let ⟨_, x2, _, x4, x5, x6⟩ := f3 b hb; ⟨x4, x2, x5, x6⟩
      obtain ⟨m, hn, _⟩ := K6.loc
      obtain ⟨g0, g1, _, g4, g5, g6⟩ := K3.fpOk (b := ce.locals) (H' := G5) (Nat.le_of_eq hsz) K6.free
      exact ⟨m, hn, fun h2 sm => ⟨.ref D, G5, K7.turned (t' := t6.toks) (fun b o hb e => (sm.2 b hb).trans e) g0 g1 g4 g5 g6, rfl, fin⟩⟩
    · refine thnF (T.item (bx X sc H3 scope ce fp xe) rfl rfl rfl hc i [] t5 _ G5 (fun _ _ => False) K5 (inBlock K5 n5) at5 more) fun r t6 ⟨u, hr, h6⟩ => ?_
      subst hr
      refine thnF h6 fun _ t7 ⟨x, G7, K7, r7, y7, at7, n7⟩ => ?_
      refine thn (pg.run _ t7 _ G7 x u _ (K7.pinned (inBlock K7 n7) (T.obj _ _ at7)) r7 (step x G7 y7)) fun _ t8 ⟨τ8, G8, K8, hw8, q8⟩ => ?_
      refine thn ((pts_nil (X := bx X sc H3 scope ce fp xe)).run _ t8 τ8 G8 _ K8 q8) fun b t9 ⟨G9, K9, q9⟩ => ?_
      have behind : ∀ {t : Shared} {G : Hp}, Inv (bx X sc H3 scope ce fp xe) ([] ++ pinsAt fp t7.heap) τ8 G t → Nx G → ∃ m, m < n ∧ ∃ i G, Inv (bx X sc H3 scope ce fp xe) [] (wipe σ (own.map (·.2))) G t ∧ stand i t.heap ∧ (∀ b ∈ fp, G b = none) ∧ M i m G := fun {t G} K nx => by
        obtain ⟨m', hm, w'⟩ := hNx G nx
        have held : ∀ b ∈ fp, ∀ o, t7.heap.get? b = some o → t.heap.get? b = some o ∧ G b = none := fun b hb o e =>
          have z := K.pin (b, o) (List.mem_append_right _ (List.mem_append_right _ (mem_pinsAt hb e)))
          And.intro z.1 z.2.1
        refine ⟨m', hm, i + 1, G, (K.unpinned (pins := [])).weak (by rw [← hw8, wipe_length]) (fun j v e => (wipe_some (hw8 ▸ e)).1), T.keep _ _ _ at7 fun b hb o e => (held b hb o e).1, fun b hb => ?_, w'⟩
        obtain ⟨o, e, _⟩ := T.obj _ _ at7 b hb
        exact (held b hb o e).2
      cases b with
      | false =>
        rw [if_neg Bool.false_ne_true] at q9 ⊢
        exact behind K9 q9
      | true =>
        rw [if_pos rfl] at q9 ⊢
        refine thn (pe.run _ t9 τ8 G9 _ K9 q9) fun z t10 ⟨yv, G10, K10, r10, acc, hD10, hz10, nx⟩ => ?_
        exact app_ok (X := bx X sc H3 scope ce fp xe) K10 hD10 hz10 r10 fun t11 K11 => behind K11 nx
  exact codeAny_compStart_list loop (T.self X.A 0 _ _ _ at4 loop)
end
/-! ### the rules -/
def blkEX (X : Cx) (W : WX) (σ : L2.St) (scope : Scope) (e : Expr) : TE := fun τ H Q => ∀ (s : Shared) (H0 : Hp) (C : Addr) (cl : List (Str × Addr)) (fp : List Addr) (xe : Value → Shared → Prop),
  (∀ υ, PassesAt (L2N.CX X.prog X.w) (bx X s H0 scope (compEnvC scope cl C X.env) fp xe) υ (fun c d H' => W c d σ H')) → TM (bx X s H0 scope (compEnvC scope cl C X.env) fp xe) e τ H Q
def blkGX (X : Cx) (scope : Scope) (e : Expr) : TG := fun v τ H Q => ∀ (s : Shared) (H0 : Hp) (C : Addr) (cl : List (Str × Addr)) (fp : List Addr) (xe : Value → Shared → Prop), TMG (bx X s H0 scope (compEnvC scope cl C X.env) fp xe) e v τ H Q
/-- an element that may raise -/
def AEy (Y : Cx) (e : Expr) (ρ : Ro) (A : AH) (xc : Value → AH → Prop) (k : AK) : Prop := ∀ V : Value → Option Addr → Hp → Prop, (∀ τ, PassesAt (L2N.CX Y.prog Y.w) Y τ V) → ∀ (σ : L2.St) (H : Hp), Sr Y.K ρ A σ H → ∀ Q : VK,
  (∀ v H' d A', TS H H' → Rp Y.K H' v d → Rel Y.K A' H' → k d A' → Q v H') → (∀ c H' A', TS H H' → Rel Y.K A' H' → xc c A' → V c none H') → TM Y e σ H Q
section
variable {Y X : Cx} {W : WX} {ρ : Ro} {A : AH} {e : Expr} {es : List Expr} {pos p0 : Pos} {k : AK} {n : Str} {ct : Ct} {lv : Nat} {xc : Value → AH → Prop}
theorem aey_call (F : Fn Y.prog Y.w Y.K Y.mg Y.base n lv ct) (hr : Room lv Y.A) (hg : Gl Y n) (h : AEs Y (e :: es) ρ A fun ds A1 => ct ds A1 k xc)
    (hdb : (n == ("__debug__" : Str)) = false := by decide) (he : starEach (e :: es) Y.env = (false, eval e Y.env) :: starEach es Y.env := by rfl) (hpl : (backTo pos (starEach es Y.env)).any (·.1) = false := by rfl) :
    AEy Y (.Call (.Name n p0) (e :: es) [] pos) ρ A xc k := fun V px σ H s Q q hx => by
  obtain ⟨f, fd, ps, F, hm, hk, hb⟩ := F.ex
  refine tm_of (pe_callS (E := fun _ => V) F hr hg hm hk hb px (pa_tm (e :: es)) hdb he hpl) ?_
  refine h σ H s _ fun vs H1 ds A1 t1 r1 l1 h1 => ?_
  exact ⟨ds, A1, k, xc, r1, l1, h1, fun v H' d A' t2 r2 l2 k2 => q v H' d A' (t1.trans t2) r2 l2 k2, fun c H' A' t2 l2 k2 => hx c H' A' (t1.trans t2) l2 k2⟩
theorem aex_lc {tg iter elt : Expr} {is : List Nat} {scope : Scope} {own : List (Str × Nat)} (hst : X.stack = X.env :: X.outer) (hf : X.env.frame = some X.env.locals) (hc : X.calm = true) (hN : X.N.Nodup) (tk : L2N.Takes X W) (ok : BlkOk X.N X.env.scope scope own) (hsub : ∀ i ∈ is, i ∈ own.map (·.2))
    (hi : AI X tg iter ρ A fun A1 G n f => n ≤ sizeLine ∧ ∃ Pv : Addr → Nat → List D → AH → Prop, (∀ p, A1 p = none → Pv p 0 [] (aupd A1 p (.lst []))) ∧ (∀ p i acc A', i ≤ n → Pv p i acc A' → G A' ∧ acc.length = i) ∧
      (∀ p i acc A', i < n → Pv p i acc A' → ∃ ρ2, ∀ (s : Shared) (H : Hp) (C : Addr) (cl : List (Str × Addr)) (fp : List Addr) (xe : Value → Shared → Prop), AG (bx X s H scope (compEnvC scope cl C X.env) fp xe) tg is (wipeR ρ (own.map (·.2))) (f i) ρ2 ∧
        AEy (bx X s H scope (compEnvC scope cl C X.env) fp xe) elt ρ2 A' xc fun d A2 => A2 p = some (.lst acc) ∧ Pv p (i + 1) (acc ++ [d]) (aupd A2 p (.lst (acc ++ [d])))) ∧
      ∀ p acc A', Pv p n acc A' → k (.ref p) A') (hs : ∀ x, foldedSetIterable iter X.env x = pure x := by intro _; rfl) : AEx X W (.ListComp elt [⟨tg, iter, [], 0⟩] scope pos) ρ A xc k := fun σ H s Q q hx => by
  refine tm_of (pe_lcX (g := blkGX X scope tg) (te := fun σ0 => blkEX X W σ0 scope elt) hst hf hc hN tk (pi_tm tg iter) ok (fun s H0 C cl fp xe => ⟨fun pins s1 σ1 H1 v u Q1 I r h => (h s H0 C cl fp xe).go pins s1 u I r⟩)
    (fun σ0 s H0 C cl fp xe px => ⟨fun pins s1 σ1 H1 Q1 I h => (h s H0 C cl fp xe px).go pins s1 I⟩) hs) ?_
  refine hi σ H s _ fun J H1 A1 G n f t1 l1 wk ⟨hn, Pv, h0, hG, hb, hd⟩ D hD => ?_
  refine ⟨fun i m H' => ∃ acc A', TS H1 H' ∧ Rel X.K A' H' ∧ m = n - i ∧ i ≤ n ∧ Pv D i acc A', ⟨n, [], _, TS.new hD, (l1.newL hD .nil).2, by simp, Nat.zero_le _, h0 D (l1.none hD)⟩, ?_⟩
  rintro i m H2 ⟨acc, A2, t2, l2, rfl, hle, p2⟩
  obtain ⟨g2, ea⟩ := hG D i acc A2 hle p2
  by_cases hlt : i < n
  · refine .inr ⟨wk.go i H2 A2 hlt t2 l2 g2, fun H' => ∃ acc A', TS H1 H' ∧ Rel X.K A' H' ∧ Pv D (i + 1) acc A', ?_, ?_⟩
    · rintro H' ⟨acc, A', t', l', p'⟩
      exact ⟨n - (i + 1), by omega, acc, A', t', l', rfl, hlt, p'⟩
    · intro x H3 y3
      obtain ⟨t3, l3, r3⟩ := wk.yl i H2 A2 x H3 hlt t2 l2 g2 y3
      obtain ⟨ρ2, hb⟩ := hb D i acc A2 hlt p2
      intro s1 H01 C1 cl1 fp1 xe1
      have sW : Sr X.K (wipeR ρ (own.map (·.2))) A2 (L2.wipe σ (own.map (·.2))) H3 := (s.mono ((t1.trans t2).trans t3) l3).wipe _
      refine (hb s1 H01 C1 cl1 fp1 xe1).1 x _ H3 A2 sW r3 _ fun σ4 hl4 hj4 s4 => ?_
      refine ⟨(wipe_eq hl4 fun j hj => hj4 j fun z => hj (hsub j z)).trans (wipe_wipe _), ?_⟩
      unfold tYes
      dsimp only
      rw [if_pos rfl]
      intro s2 H02 C2 cl2 fp2 xe2 px2
      refine (hb s2 H02 C2 cl2 fp2 xe2).2 _ px2 σ4 H3 s4 _ (fun v H4 d A4 t4 r4 l4 hp4 => ?_) fun c H4 A4 t4 l4 x4 => hx c H4 A4 (((t1.trans t2).trans t3).trans t4) l4 x4
      obtain ⟨vs, e1, e2⟩ := l4.lst hp4.1
      obtain ⟨t5, l5⟩ := l4.putL e1 (e2.append (.one r4))
      refine ⟨vs, e1, ?_, acc ++ [d], _, ((t2.trans t3).trans t4).trans t5, l5, hp4.2⟩
      rw [e2.length, ea]
      omega
  · have e : i = n := by omega
    subst e
    exact .inl ⟨wk.st H2 A2 t2 l2 g2, q (.ref D) H2 (.ref D) A2 (t1.trans t2) (.ref D) l2 (hd D acc A2 p2)⟩
/-- elements by value, some of which raise -/
theorem aex_lcV {tg iter elt : Expr} {is : List Nat} {scope : Scope} {own : List (Str × Nat)} {g : Nat → D} {good : Nat → Prop} {n : Nat} (hst : X.stack = X.env :: X.outer) (hf : X.env.frame = some X.env.locals) (hc : X.calm = true) (hN : X.N.Nodup) (tk : L2N.Takes X W) (ok : BlkOk X.N X.env.scope scope own) (hsub : ∀ i ∈ is, i ∈ own.map (·.2))
    (hi : AI X tg iter ρ A fun A1 G n' f => n' = n ∧ Ext A A1 ∧ n ≤ sizeLine ∧ (∀ A', Ext A1 A' → G A') ∧
      ∀ i, i < n → ∃ ρ2, ∀ (s : Shared) (H : Hp) (C : Addr) (cl : List (Str × Addr)) (fp : List Addr) (xe : Value → Shared → Prop), AG (bx X s H scope (compEnvC scope cl C X.env) fp xe) tg is (wipeR ρ (own.map (·.2))) (f i) ρ2 ∧ ∀ A', Ext A1 A' → ∀ kk : AK, (good i → kk (g i) A') → AEy (bx X s H scope (compEnvC scope cl C X.env) fp xe) elt ρ2 A' xc kk)
    (q : (∀ i, i < n → good i) → ∀ p, A p = none → k (.ref p) (aupd A p (.lst ((List.range n).map g)))) (hs : ∀ x, foldedSetIterable iter X.env x = pure x := by intro _; rfl) : AEx X W (.ListComp elt [⟨tg, iter, [], 0⟩] scope pos) ρ A xc k := by
  have main : AEx X W (.ListComp elt [⟨tg, iter, [], 0⟩] scope pos) ρ A xc fun d A' => ∃ p A1, Ext A A1 ∧ A1 p = none ∧ (∀ i, i < n → good i) ∧ d = .ref p ∧ A' = aupd A1 p (.lst ((List.range n).map g)) := by
    refine aex_lc hst hf hc hN tk ok hsub (fun σ H s R hR => hi σ H s R fun J H' A1 G n' f t l wk ⟨en, ex, hn, hG, hb⟩ => hR J H' A1 G n' f t l wk ?_) hs
    subst en
    refine ⟨hn, fun p i acc A' => A1 p = none ∧ A' = aupd A1 p (.lst acc) ∧ acc = (List.range i).map g ∧ ∀ j, j < i → good j, fun p hp => ⟨hp, rfl, rfl, fun j hj => absurd hj (Nat.not_lt_zero _)⟩, ?_, ?_, ?_⟩
    · rintro p i acc A' _ ⟨hp, rfl, rfl, _⟩
      exact ⟨hG _ (Ext.new hp), by simp⟩
    · rintro p i acc A' hlt ⟨hp, rfl, rfl, hq⟩
      obtain ⟨ρ2, hb⟩ := hb i hlt
      refine ⟨ρ2, fun s H C cl fp xe => ⟨(hb s H C cl fp xe).1, (hb s H C cl fp xe).2 _ (Ext.new hp) _ fun gi => ⟨aupd_same, hp, aupd_aupd, ?_, fun j hj => (Nat.lt_succ_iff_lt_or_eq.mp hj).elim (hq j) fun e => e ▸ gi⟩⟩⟩
      rw [List.range_succ, List.map_append]
      rfl
    · rintro p acc A' ⟨hp, rfl, rfl, hq⟩
      exact ⟨p, A1, ex, hp, hq, rfl, rfl⟩
  exact fun σ H s Q hq hx => main σ H s Q (fun v H' d A' t r l ⟨p, A1, ex, hp, hg, e1, e2⟩ => by
    subst e1 e2
    exact hq v H' _ _ t r (l.sub (Ext.upd ex p _)) (q hg p (ex.none hp))) hx
end
/-! ### a text, a number of times -/
def repS (x : Str) (n : Nat) : Str := ⟨(List.replicate n x.cps).foldl (· ++ ·) #[]⟩
theorem op_mulS {X : Cx} {x : Str} {n : Int} (h0 : 1 < n) (hr : (decide (n < -(2 ^ 63 : Int)) || decide (n ≥ 2 ^ 63)) = false) (hl0 : (n == 1 || x.length == 0) = false) (hb : ¬ ((x.length : Int) > (2 ^ 63 - 1) / n)) (hl : Builtin.Str.tooLong (x.length * n.toNat) = false) (hz : (repS x n.toNat).length ≤ sizeLine) :
    OpR X (binaryOp .Mult) (fun a b H Q => a = .str x ∧ b = .int n ∧ Q (.str (repS x n.toNat)) H) := by
  intro pins s σ H a b v u Q I ra rb ⟨ea, eb, q⟩
  subst ea eb
  obtain ⟨t, rfl⟩ := ra
  obtain ⟨t', rfl⟩ := rb
  refine PySem.P.mul_str hr (fun _ _ => hb) (fun _ _ => hl) ?_
  rw [if_neg (show ¬ n < 1 by omega), if_neg (by rw [hl0]; exact Bool.false_ne_true)]
  exact ⟨hz, .str (repS x n.toNat), H, I.tok _, ⟨_, rfl⟩, q⟩
theorem av_mulS1 {X : Cx} {ρ : Ro} {A : AH} {a b : Expr} {pos : Pos} {x : Str} {n : Int} (ha : AV X a ρ A (.str x)) (hb : AV X b ρ A (.int n)) (h0 : 1 < n) (hr : (decide (n < -(2 ^ 63 : Int)) || decide (n ≥ 2 ^ 63)) = false) (hl0 : (n == 1 || x.length == 0) = false) (hq : ¬ ((x.length : Int) > (2 ^ 63 - 1) / n)) (hl : Builtin.Str.tooLong (x.length * n.toNat) = false) (hz : (repS x n.toNat).length ≤ sizeLine) :
    AV X (.BinOp a .Mult b pos) ρ A (.str (repS x n.toNat)) :=
  av_op (op_mulS h0 hr hl0 hq hl hz) ha hb fun v u H r1 r2 l Q q => by
    rw [r1.str_of, r2.int_of]
    exact ⟨rfl, rfl, q _ H (TS.refl H) (.str _) l⟩
end C7
namespace C7
open PySem PySem.Spec PyProof.Rows L2
/-! ### zip of a list and a text -/
def Itzs (K : PySem.W.Frag) (a : Addr) (x : Str) : It :=
  ⟨fun i H => ∃ (xs : List V) (v : V) (c : Nat), SqL K H a xs ∧ xs[i]? = some v ∧ x.cps[i]? = some c,
    fun i H v H' => ∃ (T : Addr) (u : V) (c : Nat), v = .ref T ∧ H T = none ∧ H' = upd H T (.tup [u, .str ⟨#[c]⟩]) ∧ (∀ xs, SqL K H a xs → xs[i]? = some u) ∧ x.cps[i]? = some c,
    fun i H => ∃ xs : List V, SqL K H a xs ∧ i ≤ xs.length ∧ i ≤ x.cps.size ∧ (i = xs.length ∨ i = x.cps.size)⟩
def zsAt (z TI TO i1 i2 a : Addr) (x : Str) (t : Tok) (i : Nat) (h : Heap) : Prop := IsZip h z TI TO .none ∧ IsTupOf2 h TI (.ref i1) (.ref i2) ∧ (∃ a1 a2, IsTupOf2 h TO a1 a2) ∧ h.IsListIter i1 a i ∧ h.IsStrIter i2 (strIterType x) x t i
theorem five {z TI TO i1 i2 b : Addr} (h : b ∈ [z, TI, TO, i1, i2]) : b = z ∨ b = TI ∨ b = TO ∨ b = i1 ∨ b = i2 := by simpa using h
theorem turn_zs {P : Program} {w : World} {K : PySem.W.Frag} {elts : List Expr} {kk : Nat} {tpos : Pos} {a z TI TO i1 i2 : Addr} {x : Str} {t : Tok} (S : ZipSep2 z TI TO i1 i2 [i1, a] [i2]) (hne : a ≠ i1) : Turn P w K (.Tuple elts kk tpos) (Itzs K a x) [z, TI, TO, i1, i2] z (zsAt z TI TO i1 i2 a x t) where
  mem := List.mem_cons_self ..
  obj := fun i h ⟨hz, hTI, ⟨a1, a2, hTO⟩, ⟨o1, e1, _, d1⟩, ⟨o2, e2, _, d2⟩⟩ c hc => by
    rcases five hc with q | q | q | q | q <;> rw [q]
    · exact ⟨_, hz, fun v q => nomatch q⟩
    · exact ⟨_, hTI, fun v q => nomatch q⟩
    · exact ⟨_, hTO, fun v q => nomatch q⟩
    · exact ⟨o1, e1, fun v q => by rw [d1] at q; cases q⟩
    · exact ⟨o2, e2, fun v q => by rw [d2] at q; cases q⟩
  keep := fun i h h' ⟨hz, hTI, ⟨a1, a2, hTO⟩, ⟨o1, e1, r1⟩, ⟨o2, e2, r2⟩⟩ k => ⟨k z (by simp) _ hz, k TI (by simp) _ hTI, ⟨a1, a2, k TO (by simp) _ hTO⟩, ⟨o1, k i1 (by simp) _ e1, r1⟩, ⟨o2, k i2 (by simp) _ e2, r2⟩⟩
  item := by
    rintro X rfl rfl rfl hc i pins s σ H E I hf ⟨hz, hTI, ⟨a1, a2, hTO⟩, h1, h2⟩ ⟨xs, v, c, hq, hv, hcs⟩
    obtain ⟨its, rv, p, _⟩ := I.list hq
    obtain ⟨u, hu, ru⟩ := rv.get hv
    have hh : X.A.in1.handled = none := I.ok.hd hc
    have lt1 : i < its.toArray.size := by rw [List.size_toArray]; exact (List.getElem?_eq_some_iff.mp hu).1
    have lt2 : i < x.cps.size := (Array.getElem?_eq_some_iff.mp hcs).1
    have hzl : z < s.heap.objs.size := Heap.lt_size hz
    refine wpAny_pyNext_zipD2_item S (Draws.list hh i1 a hne its.toArray) (Draws.text hh i2 x t) hz hTI hTO ⟨h1, p.isList⟩ h2 lt1 lt2 fun x1 x2 h' tk y1 y2 b1 b2 d1 d2 b5 b6 hk => ?_
    obtain ⟨c', t', hc', rfl⟩ := y2
    have ec : c' = c := by rw [hcs] at hc'; exact (Option.some.inj hc').symm
    subst ec
    have e1 : x1 = u := by
      rw [List.getElem?_toArray, hu] at y1
      exact (Option.some.inj y1).symm
    subst e1
    refine ⟨_, rfl, wpAny_letOwnedTupleGo_zip (s := { s with heap := h', toks := tk }) b1 fun h'' z'' sb => ?_⟩
    have hT2 : h''.get? s.heap.objs.size = some { cls := .type "tuple", data := .seq #[x1, .str ⟨#[c']⟩ t'] } := (sb.2 _ (Nat.ne_of_gt hzl)).trans b5
    have new : ObjOk X.prog X.w (upd H s.heap.objs.size (.tup [v, .str ⟨#[c']⟩])) h'' s.heap.objs.size (.tup [v, .str ⟨#[c']⟩]) :=
      ⟨by show 2 ≤ sizeLine; decide, [x1, .str ⟨#[c']⟩ t'], .cons ru (.cons ⟨t', rfl⟩ .nil), ⟨_, hT2, rfl, _, rfl⟩⟩
    have stay : ∀ b o, b ∉ [z, TI, TO, i1, i2] → s.heap.get? b = some o → h''.get? b = some o := fun b o hb e => by
      simp only [List.mem_cons, List.not_mem_nil, or_false, not_or] at hb
      exact (sb.2 b hb.1).trans (hk b o hb.1 hb.2.2.1 hb.2.2.2.1 hb.2.2.2.2 e)
    have I1 := I.turnedNew (t' := tk) (ch := [z, TI, TO, i1, i2]) stay hf (Nat.le_refl _) new
    refine ⟨.ref s.heap.objs.size, _, I1, rfl, ⟨_, v, c', rfl, I.hok.fresh (Nat.le_refl _), rfl, fun l hl => by rw [I.list_inj hl hq]; exact hv, hcs⟩, ⟨z'', (sb.2 _ S.TIz).trans (hk _ _ S.TIz S.TITO S.TIi1 S.TIi2 hTI), ⟨_, _, (sb.2 _ S.TOz).trans b2⟩, ?_, ?_⟩, fun b hb => ?_⟩
    · obtain ⟨o1, g1, r1⟩ := d1.1
      exact ⟨o1, (sb.2 _ (Ne.symm S.zi1)).trans g1, r1⟩
    · obtain ⟨o2, g2, r2⟩ := d2
      exact ⟨o2, (sb.2 _ (Ne.symm S.zi2)).trans g2, r2⟩
    · have hlt : b < s.heap.objs.size := by
        rcases five hb with q | q | q | q | q <;> rw [q]
        · exact hzl
        · exact Heap.lt_size hTI
        · exact Heap.lt_size hTO
        · obtain ⟨_, e1, _⟩ := h1; exact Heap.lt_size e1
        · obtain ⟨_, e2, _⟩ := h2; exact Heap.lt_size e2
      rw [upd_ne (Nat.ne_of_lt hlt)]
      exact (hf b hb).1
  done := by
    rintro X rfl rfl rfl hc i pins s σ H E I hf ⟨hz, hTI, ⟨a1, a2, hTO⟩, h1, h2⟩ ⟨xs, hq, l1, l2, hend⟩
    obtain ⟨its, rv, p, _⟩ := I.list hq
    have hl := rv.length
    have hh : X.A.in1.handled = none := I.ok.hd hc
    refine wpAny_pyNext_zipD2_end S (Draws.list hh i1 a hne its.toArray) (Draws.text hh i2 x t) hz hTI hTO ⟨h1, p.isList⟩ h2 (by rw [List.size_toArray]; omega) l2 (by rw [List.size_toArray]; omega) fun h' tk hk => ⟨rfl, I.turnedL (t' := tk) (ch := [z, TI, TO, i1, i2]) (fun b o hb e => ?_) hf⟩
    simp only [List.mem_cons, List.not_mem_nil, or_false, not_or] at hb
    exact hk b o hb.1 hb.2.2.1 hb.2.2.2.1 hb.2.2.2.2 e
  self := fun A i s Q E st h => wpAny_pyIter_zip st.1 h
def iZipS (K : PySem.W.Frag) (ta : TA) : TI := fun σ H R => ta σ H fun vs H1 => ∃ (a : Addr) (xs : List V) (x : Str), vs = [.ref a, .str x] ∧ SqL K H1 a xs ∧ R (Itzs K a x) H1
theorem pi_zipS {X : Cx} {e e2 : Expr} {ta : TA} {p pos tpos : Pos} {elts : List Expr} {kk : Nat} (hg : Gl X "zip") (hm : X.mg "zip" = none) (ha : PA X [e, e2] ta)
    (hs : starEach [e, e2] X.env = (false, eval e X.env) :: starEach [e2] X.env := by rfl) (hpl : (backTo pos (starEach [e2] X.env)).any (·.1) = false := by rfl) :
    PI X (.Tuple elts kk tpos) (.Call (.Name "zip" p) [e, e2] [] pos) (iZipS X.K ta) := by
  refine ⟨fun pins s σ H R I h => ?_⟩
  refine Call_ (ld_blt I hg hm PyProof.Rows.boot_zip (PyProof.Rows.callWith_type1 (thn (ha.run pos pins s σ H _ I h) fun us s1 ⟨vs, H1, I1, r1, a, xs, x, ex, hq, q⟩ => ?_) hs hpl))
  subst ex
  cases r1 with
  | cons r rr =>
    cases rr with
    | cons r' rr =>
      cases rr
      cases r
      obtain ⟨t, rfl⟩ := r'
      obtain ⟨its, rv, p1, _⟩ := I1.list hq
      have la : a < s1.heap.objs.size := p1.lt
      refine zip_begins2 (begins_list a its.toArray) (begins_text x t) p1.isList trivial fun h' hz hTI hTO g1 g2 hsz hk => wpAny_pyIter_zip hz ?_
      have I2 : Inv X pins σ H1 { s1 with heap := h' } := I1.kept (t' := s1.toks) hk
      have S := zip_sep2 (N := s1.heap.objs.size) (fp1 := [a]) (fp2 := []) (by simpa using la) (by simp)
      refine ⟨s1.heap.objs.size + 4, [s1.heap.objs.size + 4, s1.heap.objs.size + 2, s1.heap.objs.size + 3, s1.heap.objs.size, s1.heap.objs.size + 1], _, _, H1, rfl, I2, turn_zs (x := x) (t := t) S (Nat.ne_of_lt la), ⟨hz, hTI, ⟨_, _, hTO⟩, ⟨_, g1, rfl, rfl⟩, ⟨_, g2, rfl, rfl⟩⟩, fun c hc => ?_, q⟩
      have hle : s1.heap.objs.size ≤ c := by rcases five hc with q | q | q | q | q <;> rw [q] <;> first | exact Nat.le_refl _ | exact Nat.le_add_right _ _
      exact I1.fpOk hle (I1.hok.fresh hle)
theorem wk_zs {K : Frag} {H0 : Hp} {p : Addr} {x0 : D} {ds : List D} {x : Str} (r0 : Rp K H0 (.ref p) x0) : Wk K H0 (Itzs K p x) (fun A => IsL A x0 ds) (min ds.length x.cps.size) (fun i => .tup [ds.getD i .non, .str ⟨#[x.cps.getD i 0]⟩]) where
  go := fun i H A h t r g => by
    obtain ⟨q1, vs, ep, h1, h2⟩ := g.sq (r0.mono t) r
    cases ep
    have hi : i < vs.length := by rw [h2.length]; omega
    have hj : i < x.cps.size := by omega
    exact ⟨vs, vs[i], x.cps[i], h1, List.getElem?_eq_getElem hi, Array.getElem?_eq_getElem hj⟩
  yl := fun i H A v H' h t r g y => by
    obtain ⟨T, u, c, rfl, hT, rfl, hu, hc⟩ := y
    obtain ⟨q1, vs, ep, h1, h2⟩ := g.sq (r0.mono t) r
    cases ep
    obtain ⟨d, e1, e2⟩ := h2.getV (hu vs h1)
    refine ⟨TS.new hT, r.newT hT, ?_⟩
    rw [List.getD_eq_getElem?_getD, e1, Array.getD_eq_getD_getElem?, hc]
    exact tup_ok (.cons e2 (.one (.str _))) hT
  st := fun H A t r g => by
    obtain ⟨q1, vs, ep, h1, h2⟩ := g.sq (r0.mono t) r
    cases ep
    exact ⟨vs, h1, by rw [h2.length]; omega, by omega, by rw [h2.length]; omega⟩
section
variable {X : Cx} {ρ : Ro} {A : AH} {a b : Expr} {p0 pos : Pos} {β : Type} {f : β → D} {xs : List β} {x : Str}
theorem ai_zs {kI : AH → (AH → Prop) → Nat → (Nat → D) → Prop} {elts : List Expr} {kk : Nat} {tpos : Pos} (hg : Gl X "zip") (hm : X.mg "zip" = none) (h : AEs X [a, b] ρ A fun es' A1 => ∃ y ds x, es' = [y, .str x] ∧ IsL A1 y ds ∧ kI A1 (fun A' => IsL A' y ds) (min ds.length x.cps.size) (fun i => .tup [ds.getD i .non, .str ⟨#[x.cps.getD i 0]⟩]))
    (hs : starEach [a, b] X.env = (false, eval a X.env) :: starEach [b] X.env := by rfl) (hpl : (backTo pos (starEach [b] X.env)).any (·.1) = false := by rfl) : AI X (.Tuple elts kk tpos) (.Call (.Name "zip" p0) [a, b] [] pos) ρ A kI := fun σ H s R q =>
  tmi_of (pi_zipS hg hm (pa_tm [a, b]) hs hpl) (h σ H s _ fun vs H1 es' A1 t1 r1 l1 ⟨y, ds, x, e, hl, k1⟩ => by
    subst e
    obtain ⟨v, v', rfl, r1, r2⟩ := rps2 r1
    obtain ⟨p, xs, rfl, h1, h2⟩ := hl.sq r1 l1
    rw [r2.str_of]
    exact ⟨p, xs, x, rfl, h1, q _ H1 A1 _ _ _ t1 l1 (wk_zs r1) k1⟩)
theorem ai_zipS {kI : AH → (AH → Prop) → Nat → (Nat → D) → Prop} (d0 : β) {elts : List Expr} {kk : Nat} {tpos : Pos} (hg : Gl X "zip") (hm : X.mg "zip" = none) (h : AVs X [a, b] ρ A [.fz (xs.map f), .str x]) (q : kI A (fun _ => True) (min xs.length x.cps.size) (fun i => .tup [f (xs.getD i d0), .str ⟨#[x.cps.getD i 0]⟩]))
    (hs : starEach [a, b] X.env = (false, eval a X.env) :: starEach [b] X.env := by rfl) (hpl : (backTo pos (starEach [b] X.env)).any (·.1) = false := by rfl) : AI X (.Tuple elts kk tpos) (.Call (.Name "zip" p0) [a, b] [] pos) ρ A kI :=
  AI.to (ai_zs hg hm (h.aes ⟨_, _, x, rfl, IsL.fz, fun _ => True, fun i => .tup [f (xs.getD i d0), .str ⟨#[x.cps.getD i 0]⟩], fun i hi => by
    rw [List.length_map] at hi
    dsimp only
    rw [getD_mapF d0 (by omega)], fun _ _ => IsL.fz, by rw [List.length_map]; exact q⟩) hs hpl)
end
end C7
namespace C7
open PySem PySem.Spec PyProof.Rows L2
/-! ### dicts keyed by texts -/
def keyS (q : Str × D) : Key × D := (Sum.inr q.1, q.2)
def dkS (kvs : List (Str × D)) : AO := .dK (kvs.map keyS)
def lkS (kvs : List (Str × D)) (x : Str) : Option D := (kvs.find? fun q => decide (q.1 = x)).map (·.2)
def putS (kvs : List (Str × D)) (x : Str) (d : D) : List (Str × D) := if (kvs.any fun q => decide (q.1 = x)) = true then kvs.map (fun q => if q.1 = x then (q.1, d) else q) else kvs ++ [(x, d)]
def EnS (K : Frag) (H : Hp) (p : Key × V) (q : Key × D) : Prop := p.1 = q.1 ∧ Rp K H p.2 q.2
theorem lk_pairS {K : Frag} {H : Hp} {x : Str} : ∀ {kvs : List (Str × D)} {gs : List (Key × V)}, Paired (EnS K H) gs (kvs.map keyS) → (lkS kvs x = none ∧ valV gs (Sum.inr x) = none) ∨ ∃ d v, lkS kvs x = some d ∧ valV gs (Sum.inr x) = some v ∧ Rp K H v d
  | [], _, .nil => .inl ⟨rfl, rfl⟩
  | (y, d) :: kvs, p :: _, .cons h t => by
    obtain ⟨pk, pv⟩ := p
    obtain ⟨h1, h2⟩ := h
    have h1 : pk = Sum.inr y := h1
    subst h1
    by_cases e : y = x
    · subst e
      refine .inr ⟨d, pv, ?_, valV_pos rfl, h2⟩
      simp [lkS]
    · have e2 : ¬ ((Sum.inr y, pv) : Key × V).1 = Sum.inr x := fun z => e (Sum.inr.inj z)
      rw [valV_neg e2, show lkS ((y, d) :: kvs) x = lkS kvs x by simp [lkS, List.find?_cons, e]]
      exact lk_pairS t
theorem len_pairS {K : Frag} {H : Hp} {kvs : List (Str × D)} {gs : List (Key × V)} (h : Paired (EnS K H) gs (kvs.map keyS)) : gs.length = kvs.length := by rw [Paired.length h, List.length_map]
theorem any_pairS {K : Frag} {H : Hp} {x : Str} {kvs : List (Str × D)} {gs : List (Key × V)} (h : Paired (EnS K H) gs (kvs.map keyS)) : (gs.any fun kv => decide (kv.1 = Sum.inr x)) = (kvs.any fun q => decide (q.1 = x)) := by
  induction kvs generalizing gs with
  | nil => cases h; rfl
  | cons q kvs ih =>
    cases h with
    | cons h t =>
      rw [List.any_cons, List.any_cons, ih t]
      congr 1
      have h1 := h.1
      rw [h1]
      exact decide_eq_decide.mpr ⟨fun z => Sum.inr.inj z, fun z => by rw [← z]; rfl⟩
theorem put_mapS {K : Frag} {H : Hp} {x : Str} {v : V} {d : D} (r : Rp K H v d) : ∀ {kvs : List (Str × D)} {gs : List (Key × V)}, Paired (EnS K H) gs (kvs.map keyS) →
    Paired (EnS K H) (gs.map fun kv => if kv.1 = Sum.inr x then (kv.1, v) else kv) ((kvs.map fun q => if q.1 = x then (q.1, d) else q).map keyS)
  | [], _, .nil => .nil
  | (y, d0) :: kvs, p :: _, .cons h t => by
    obtain ⟨pk, pv⟩ := p
    obtain ⟨h1, h2⟩ := h
    have h1 : pk = Sum.inr y := h1
    subst h1
    refine .cons ?_ (put_mapS r t)
    by_cases e : y = x
    · subst e
      simp only [if_true]
      exact ⟨rfl, r⟩
    · have e2 : ¬ (Sum.inr y : Key) = Sum.inr x := fun z => e (Sum.inr.inj z)
      simp only [if_neg e, if_neg e2]
      exact ⟨rfl, h2⟩
theorem put_pairS {K : Frag} {H : Hp} {x : Str} {v : V} {d : D} (r : Rp K H v d) {kvs : List (Str × D)} {gs : List (Key × V)} (h : Paired (EnS K H) gs (kvs.map keyS)) : Paired (EnS K H) (putK gs (Sum.inr x) v) ((putS kvs x d).map keyS) := by
  unfold putK putS
  rw [any_pairS h]
  split
  · exact put_mapS r h
  · rw [List.map_append]
    exact Paired.snoc h ⟨rfl, r⟩
theorem Rel.dS {K : Frag} {A : AH} {H : Hp} {p : Addr} {kvs : List (Str × D)} (r : Rel K A H) (h : A p = some (dkS kvs)) : ∃ gs, H p = some (.dK gs) ∧ Paired (EnS K H) gs (kvs.map keyS) := by
  obtain ⟨u, e1, gs, e2, e3⟩ := r p _ h
  rw [e2] at e1
  exact ⟨gs, e1, e3⟩
section
variable {X : Cx}
theorem op_notInS (hu : X.A.units + 1 < cLine) : OpR X (compareOp .NotIn) (fun y x H Q => ∃ a o, x = V.ref a ∧ DGet H a y o ∧ Q (.bl (!o.isSome)) H) := by
  intro pins s σ H y x v u Q I ry rx ⟨a, o, ex, g, q⟩
  subst ex
  obtain rfl : u = Value.ref a := rx
  exact d_notIn hu I g ry fun s3 I3 => ⟨.bl (!o.isSome), H, I3, rfl, q⟩
/-- a dict against an empty one -/
theorem op_neE (hu : X.A.units < cLine) : OpR X (compareOp .NotEq) (fun x y H Q => ∃ a b ks, x = V.ref a ∧ y = V.ref b ∧ H a = some (.dK ks) ∧ H b = some (.dK []) ∧ Q (.bl (!ks.isEmpty)) H) := by
  intro pins s σ H x y v u Q I rx ry ⟨a, b, ks, e1, e2, ea, eb, q⟩
  subst e1 e2
  obtain rfl : v = Value.ref a := rx
  obtain rfl : u = Value.ref b := ry
  obtain ⟨_, ya, va, ra, da⟩ := (show ObjOk X.prog X.w H s.heap a (.dK ks) from I.hok a _ ea)
  obtain ⟨_, yb, vb, rb, db⟩ := (show ObjOk X.prog X.w H s.heap b (.dK []) from I.hok b _ eb)
  have hb0 : vb.length = 0 := (rb.length).symm
  have ha0 : va.length = ks.length := (ra.length).symm
  refine PySem.W.keq_ne (knd := mixKind X.prog X.w) (r := true) ya yb da db hu (fun hl => ?_) (fin_bl I q ?_)
  · have : ks = [] := List.length_eq_zero_iff.mp (by omega)
    subst this
    exact hits_all rb ra fun p hp => nomatch hp
  · rw [hb0, ha0]
    cases ks <;> simp
end
section
variable {X : Cx} {W : WX} {ρ : Ro} {A : AH} {e a b o i : Expr} {pos p0 : Pos} {d : D} {k : AK} {E : AEnds} {kvs : List (Str × D)} {lv : Nat} {p : Addr} {x : Str}
theorem ru (hr : Room lv X.A) : X.A.units + 1 < cLine := by have := hr.units; omega
theorem ae_dictS (q : ∀ p, A p = none → k (.ref p) (aupd A p (dkS []))) : AE X (.Dict [] [] pos) ρ A k := fun σ H s Q qq =>
  tm_of pe_dnewK (fun p hp => qq _ _ _ _ (TS.new hp) (.ref p) (s.hp.new (o := dkS []) hp ⟨[], rfl, .nil⟩) (q p (s.hp.none hp)))
theorem dget_of {H : Hp} (l : Rel X.K A H) (hl : A p = some (dkS kvs)) : (lkS kvs x = none ∧ DGet H p (.str x) none) ∨ ∃ d v, lkS kvs x = some d ∧ DGet H p (.str x) (some v) ∧ Rp X.K H v d := by
  obtain ⟨gs, e1, e2⟩ := l.dS hl
  have g : DGet H p (.str x) (valV gs (Sum.inr x)) := DGet.k (k := Sum.inr x) e1
  rcases lk_pairS (x := x) e2 with ⟨h1, h2⟩ | ⟨d, v, h1, h2, h3⟩
  · rw [h2] at g
    exact .inl ⟨h1, g⟩
  · rw [h2] at g
    exact .inr ⟨d, v, h1, g, h3⟩
theorem av_ixS' (hr : Room lv X.A) (ha : AV X a ρ A (.ref p)) (hb : AV X b ρ A (.str x)) (hl : A p = some (dkS kvs)) (h : lkS kvs x = some d) (hs : NoSl b := by intro _ _; rfl) : AV X (.Subscript a b pos) ρ A d := fun σ H s Q q =>
  tm_of (pe_dget (ru hr) (pe_tm a) (pe_tm b) hs) (ha σ H s _ fun v H1 t1 r1 l1 => hb σ H1 (s.mono t1 l1) _ fun u H2 t2 r2 l2 => by
    rw [r1.ref_of, r2.str_of]
    rcases dget_of (x := x) l2 hl with ⟨h1, _⟩ | ⟨d2, v2, h1, g, r⟩
    · rw [h] at h1; cases h1
    · rw [h] at h1
      cases h1
      exact ⟨p, v2, rfl, g, q v2 H2 (t1.trans t2) r l2⟩)
theorem at_notInS (hr : Room lv X.A) (hb : AV X b ρ A (.str x)) (ha : AV X a ρ A (.ref p)) (hl : A p = some (dkS kvs)) (hm : behindInMarks .NotIn a = false := by rfl) : AT X (.Compare b [.NotIn] [a] pos) ρ A (!(lkS kvs x).isSome) :=
  at_cmp (op_notInS (ru hr)) hm hb ha fun u v H r2 r1 l Q q => by
    rw [r1.ref_of, r2.str_of]
    rcases dget_of (x := x) l hl with ⟨h1, g⟩ | ⟨d2, v2, h1, g, r⟩
    · rw [h1] at q; exact ⟨p, none, rfl, g, q H (TS.refl H) l⟩
    · rw [h1] at q; exact ⟨p, some v2, rfl, g, q H (TS.refl H) l⟩
theorem a1_setS {tpos : Pos} (hr : Room lv X.A) (h : AV X e ρ A d) (ho : AV X o ρ A (.ref p)) (hi : AV X i ρ A (.str x)) (hl : A p = some (dkS kvs)) (hn : kvs.length < sizeLine) (q : E.nx ρ (aupd A p (dkS (putS kvs x d)))) (hs : swapsWith e (some (.Subscript o i tpos)) pos.line X.env = pure false := by rfl) : A1 X W (.Assign [.Subscript o i tpos] e pos) ρ A E := fun σ H s D qq =>
  tm1_of (ps_dput (ru hr) (pe_tm o) (pe_tm i) (pe_tm e) hs) (h σ H s _ fun v H1 t1 r1 l1 => ho σ H1 (s.mono t1 l1) _ fun w H2 t2 r2 l2 => hi σ H2 ((s.mono t1 l1).mono t2 l2) _ fun z H3 t3 r3 l3 => by
    have tt := (t1.trans t2).trans t3
    obtain ⟨gs, e1, e2⟩ := l3.dS hl
    have rv := (r1.mono t2).mono t3
    rw [r2.ref_of, r3.str_of]
    have t4 : TS H3 (upd H3 p (.dK (putK gs (Sum.inr x) v))) := TS.put e1 (fun _ z => nomatch z) (fun _ _ z => nomatch z)
    have l4 : Rel X.K (aupd A p (dkS (putS kvs x d))) (upd H3 p (.dK (putK gs (Sum.inr x) v))) := l3.put e1 (fun _ z => nomatch z) (fun _ _ z => nomatch z) ⟨_, rfl, Paired.mapP (put_pairS rv e2) fun _ _ z => ⟨z.1, z.2.mono t4⟩⟩
    exact ⟨p, _, rfl, DPut.k (k := Sum.inr x) e1 (by rw [len_pairS e2]; exact hn), qq.nx ρ _ σ _ (tt.trans t4) (s.mono (tt.trans t4) l4) q⟩)
/-- sorted(d) -/
theorem al_sortedS (hc : X.calm = true) (hg : Gl X "sorted") (hm : X.mg "sorted" = none) (ha : AV X a ρ A (.ref p)) (hl : A p = some (dkS kvs)) (h64 : kvs.length < 64) (q : ∀ ys : List Str, ys.Perm (kvs.map (·.1)) → sortedS ys = true → ∀ z, A z = none → k (.ref z) (aupd A z (.lst (ys.map D.str))))
    (hs : starEach [a] X.env = [(false, eval a X.env)] := by rfl) : AE X (.Call (.Name "sorted" p0) [a] [] pos) ρ A k :=
  ae_callB (call_sortedD hc) hg hm (by decide +kernel) (aes_cons (ha.ae (aes_nil (fun vs H r l Q qq => by
    obtain ⟨v, rfl, r1⟩ := rps1 r
    rw [r1.ref_of]
    obtain ⟨gs, e1, e2⟩ := l.dS hl
    refine ⟨p, gs, kvs.map (·.1), rfl, .inl e1, ?_, by rw [List.length_map]; exact h64, fun ys z h1 h2 hz => ?_⟩
    · clear h64 q hl l e1
      induction kvs generalizing gs with
      | nil => cases e2; rfl
      | cons c kvs ih =>
        cases e2 with
        | cons h t => rw [List.map_cons, List.map_cons, List.map_cons, ih _ t, h.1]; rfl
    · have hv : Rps X.K H (ys.map V.str) (ys.map D.str) := by
        clear h1 h2
        induction ys with
        | nil => exact .nil
        | cons y ys ih => exact .cons (.str y) ih
      obtain ⟨t, l'⟩ := l.newL hz hv
      exact qq _ _ _ _ t (.ref z) l' (q ys h1 h2 z (l.none hz))))) hs) (he := hs) (hpl := rfl)
end
/-! ### a dict of the module whose keys and values are texts -/
def lkT (kvs : List (Str × Str)) (x : Str) : Option Str := (kvs.find? fun q => decide (q.1 = x)).map (·.2)
structure KdS (K : Frag) (w : World) (a : Addr) (kvs : List (Str × Str)) : Prop where
  kd : ∃ es n, KDict K w a es n
  no : ∀ x, lkT kvs x = none → PySem.W.nsIn K a x = some none
  yes : ∀ x y, lkT kvs x = some y → ∃ t, PySem.W.nsIn K a x = some (some (.str y t))
theorem ix_kdS {X : Cx} {p : Addr} {kvs : List (Str × Str)} (D : KdS X.K X.w p kvs) : IxR X (fun x y H Q => ∃ z u, x = V.ref p ∧ y = V.str z ∧ lkT kvs z = some u ∧ Q (.str u) H) := by
  intro value slice pins s σ H x y v u Q I rx ry ⟨z, r, ex, ey, h, q⟩ hs
  subst ex ey
  obtain ⟨es, n, D0⟩ := D.kd
  obtain ⟨t, ht⟩ := D.yes z r h
  obtain rfl : v = Value.ref p := rx
  exact tail_any (kd_type D0 I) slot_dict_getitem.lookup (op_item_kd D0 pins s σ H (.ref p) (.str z) (.ref p) u Q I rfl ry ⟨z, _, .str r, rfl, rfl, ht, ⟨t, rfl⟩, q⟩) hs
section
variable {X : Cx} {ρ : Ro} {A : AH} {a b : Expr} {pos : Pos} {p : Addr} {x u : Str} {kvs : List (Str × Str)} {ys : List Str}
theorem av_ixKd (D : KdS X.K X.w p kvs) (ha : AV X a ρ A (.ref p)) (hb : AV X b ρ A (.str x)) (h : lkT kvs x = some u) (hs : PlainIx b := by intro _ _; rfl) : AV X (.Subscript a b pos) ρ A (.str u) := fun σ H s Q q =>
  tm_of (pe_ix (ix_kdS D) (pe_tm a) (pe_tm b) hs) (ha σ H s _ fun v H1 t1 r1 l1 => hb σ H1 (s.mono t1 l1) _ fun w H2 t2 r2 l2 => by
    rw [r1.ref_of, r2.str_of]
    exact ⟨x, u, rfl, rfl, h, q _ H2 (t1.trans t2) (.str _) l2⟩)
theorem at_notInKd (D : KdS X.K X.w p kvs) (hb : AV X b ρ A (.str x)) (ha : AV X a ρ A (.ref p)) (hm : behindInMarks .NotIn a = false := by rfl) : AT X (.Compare b [.NotIn] [a] pos) ρ A (!(lkT kvs x).isSome) := by
  obtain ⟨es, n, D0⟩ := D.kd
  refine at_cmp (op_notIn_kd D0) hm hb ha fun v w H r2 r1 l Q q => ?_
  rw [r1.ref_of, r2.str_of]
  cases h : lkT kvs x with
  | none => rw [h] at q; exact ⟨x, none, rfl, rfl, D.no x h, q H (TS.refl H) l⟩
  | some y =>
    rw [h] at q
    obtain ⟨t, ht⟩ := D.yes x y h
    exact ⟨x, _, rfl, rfl, ht, q H (TS.refl H) l⟩
/-- a text in a tuple of texts -/
theorem inV_str : inV (.str x) (ys.map V.str) = decide (x ∈ ys) := by
  induction ys with
  | nil => rfl
  | cons y ys ih =>
    show (eqV (.str y) (.str x) || inV (.str x) (ys.map V.str)) = _
    rw [ih, show eqV (.str y) (.str x) = (y == x) from rfl]
    by_cases e : y = x
    · subst e; simp
    · have : ¬ x = y := fun z => e z.symm
      simp [e, this]
theorem strs_of {K : Frag} {H : Hp} : ∀ {ys : List Str} {vs : List V}, Rps K H vs (ys.map D.str) → vs = ys.map V.str
  | [], _, .nil => rfl
  | y :: ys, _, .cons r t => by rw [strs_of t, r.str_of]; rfl
theorem at_inTs (ha : AV X a ρ A (.str x)) (hb : AV X b ρ A (.tup (ys.map D.str))) (hm : behindInMarks .In b = false := by rfl) : AT X (.Compare a [.In] [b] pos) ρ A (decide (x ∈ ys)) :=
  at_cmp op_in_seq hm ha hb fun v w H r1 r2 l Q q => by
    obtain ⟨p, vs, rfl, h1, h2⟩ := r2.tup_of
    rw [r1.str_of]
    have e := strs_of h2
    subst e
    refine ⟨p, _, rfl, .inr h1, rfl, by rw [List.all_map]; simp [flatV, Function.comp_def], ?_⟩
    rw [if_neg Bool.false_ne_true, inV_str]
    exact q H (TS.refl H) l
end
/-- a written dict's entries -/
def EntT (P : Params) : List DictEntry → List (Str × Str) → Prop
  | [], [] => True
  | e :: es, q :: qs => (∃ t u, e.key = .str q.1 t ∧ e.val = .str q.2 u ∧ e.hash = PyData.keyHash P q.1) ∧ EntT P es qs
  | _, _ => False
theorem entT_nil {P : Params} : EntT P [] [] := True.intro
theorem entT_cons {P : Params} {e : DictEntry} {es : List DictEntry} {q : Str × Str} {qs : List (Str × Str)} (h : ∃ t u, e.key = .str q.1 t ∧ e.val = .str q.2 u ∧ e.hash = PyData.keyHash P q.1) (r : EntT P es qs) : EntT P (e :: es) (q :: qs) := ⟨h, r⟩
theorem EntT.lit {P : Params} : ∀ {es : List DictEntry} {qs : List (Str × Str)}, EntT P es qs → PySem.W.KeysLit P es
  | [], [], _ => trivial
  | _ :: _, _ :: _, ⟨⟨t, _, h1, _, h3⟩, r⟩ => ⟨⟨_, t, h1, h3⟩, EntT.lit r⟩
  | [], _ :: _, h => h.elim
  | _ :: _, [], h => h.elim
theorem EntT.ref {P : Params} : ∀ {es : List DictEntry} {qs : List (Str × Str)}, EntT P es qs → es.any (·.refKey) = false
  | [], [], _ => rfl
  | e :: es, _ :: _, ⟨⟨t, _, h1, _, _⟩, r⟩ => by
    rw [List.any_cons, EntT.ref r, Bool.or_false]
    obtain ⟨h, k, v⟩ := e
    simp only at h1
    subst h1
    rfl
  | [], _ :: _, h => h.elim
  | _ :: _, [], h => h.elim
theorem EntT.find {P : Params} (x : Str) : ∀ {es : List DictEntry} {qs : List (Str × Str)}, EntT P es qs → (lkT qs x = none ∧ es.find? (·.key.isStr x) = none) ∨ ∃ y e t, lkT qs x = some y ∧ es.find? (·.key.isStr x) = some e ∧ e.val = .str y t
  | [], [], _ => .inl ⟨rfl, rfl⟩
  | e :: es, q :: qs, ⟨⟨t, u, h1, h2, _⟩, r⟩ => by
    by_cases hx : q.1 = x
    · refine .inr ⟨q.2, e, u, by simp [lkT, hx], ?_, h2⟩
      rw [List.find?_cons, h1, hx]
      have : (Value.str x t).isStr x = true := by simp [Value.isStr]
      rw [this]
    · have hn : (Value.str q.1 t).isStr x = false := by simp [Value.isStr, hx]
      rw [List.find?_cons, h1, hn, show lkT (q :: qs) x = lkT qs x by simp [lkT, List.find?_cons, hx]]
      exact EntT.find x r
  | [], _ :: _, h => h.elim
  | _ :: _, [], h => h.elim
theorem kdS_of {K : Frag} {w : World} {a : Addr} {es : Array DictEntry} {n : Nat} {kvs : List (Str × Str)} (hl : K.lookup a = some ⟨.type "dict", none, .dict es n, #[]⟩) (he : EntT w.params es.toList kvs) (hs : (a == sysModules) = false) : KdS K w a kvs := by
  refine ⟨⟨es, n, hl, he.lit, hs⟩, fun x h => ?_, fun x y h => ?_⟩
  · rcases he.find x with ⟨h1, h2⟩ | ⟨y, e, t, h1, _⟩
    · unfold PySem.W.nsIn
      rw [hl]
      simp only [h2, he.ref]
      rfl
    · rw [h] at h1; cases h1
  · rcases he.find x with ⟨h1, _⟩ | ⟨y2, e, t, h1, h2, h3⟩
    · rw [h] at h1; cases h1
    · rw [h] at h1
      cases h1
      refine ⟨t, ?_⟩
      unfold PySem.W.nsIn
      rw [hl]
      simp only [h2, h3]
end C7
namespace C7
open PySem PySem.Spec PyProof.Rows L2
section
variable {X : Cx} {W : WX} {ρ : Ro} {A : AH} {e o : Expr} {es : List Expr} {pos : Pos} {d : D} {k : AK} {E : AEnds} {xc : Value → AH → Prop} {C p : Addr} {f : Str} {fs : List (Str × D)} {dx : Addr}
/-- a list display whose elements may raise -/
theorem aex_lst (h : AEsx X W es ρ A xc fun ds A1 => ds.length ≤ sizeLine ∧ ∀ p, A1 p = none → k (.ref p) (aupd A1 p (.lst ds))) : AEx X W (.List es pos) ρ A xc k := fun σ H s Q q hx =>
  tm_of (pe_lst (pa_tm es)) (h σ H s _ (fun vs H1 ds A1 t1 r1 l1 h1 => ⟨by rw [r1.length]; exact h1.1, fun p hp => q (.ref p) _ _ _ (t1.trans (TS.new hp)) (.ref p) (l1.newL hp r1).2 (h1.2 p (l1.none hp))⟩) hx)
/-- what a value has of new lists is locked, the expression may raise -/
theorem AEx.frz (h : AEx X W e ρ A xc fun d A' => ∃ A0 v, Ext A0 A' ∧ Fr A0 A' d v ∧ k v A0) : AEx X W e ρ A xc k := fun σ H s Q q hx => ⟨fun pins st I =>
  thn ((h σ H s (fun v0 H' => ∃ d A' A0 v, TS H H' ∧ Rp X.K H' v0 d ∧ Rel X.K A' H' ∧ Ext A0 A' ∧ Fr A0 A' d v ∧ k v A0) (fun v0 H' d A' t r l ⟨A0, v, h1, h2, h3⟩ => ⟨d, A', A0, v, t, r, l, h1, h2, h3⟩) hx).go pins st I) fun u s' hu => by
    obtain ⟨v0, H', I', rv, d, A', A0, v, t, r, l, h1, h2, h3⟩ := hu
    obtain ⟨H1, I1, t1, r1, q1⟩ := h2.lock h1 I' l
    exact ⟨v0, H1, I1, rv, q v0 H1 v A0 (t.trans t1) (q1 H1 (TS.refl H1) _ (r.mono t1)) r1 h3⟩⟩
/-- o.f = e, e of any kind -/
theorem a1_fldE {pos' : Pos} (c : Cls X.K C) (na : NoAttr X.K C f) (h : AE X e ρ A fun d A1 => AV X o ρ A1 (.ref p) ∧ ∃ fs, A1 p = some (.ins C dx fs) ∧ fs.length < 1000 ∧ E.nx ρ (aupd A1 p (.ins C dx (putFD f d fs)))) (hs : swapsWith e (some (.Attribute o f pos')) pos.line X.env = pure false := by rfl) :
    A1 X W (.Assign [.Attribute o f pos'] e pos) ρ A E := fun σ H s D qq =>
  tm1_of (ps_fld (pe_tm o) (pe_tm e) hs) (h σ H s _ fun v H1 d A1 t1 r1 l1 ⟨ho, fs, hl, hn, q⟩ => ho σ H1 (s.mono t1 l1) _ fun u H2 t2 r2 l2 => by
    obtain ⟨gs, e1, e2⟩ := l2.ins hl
    have t3 : TS H2 (upd H2 p (.ins C dx (putF f v gs))) := TS.put e1 (fun _ z => nomatch z) (fun _ _ z => nomatch z)
    have l3 : Rel X.K (aupd A1 p (.ins C dx (putFD f d fs))) (upd H2 p (.ins C dx (putF f v gs))) := l2.put e1 (fun _ z => nomatch z) (fun _ _ z => nomatch z) ⟨_, rfl, Paired.mapP (fd_put (r1.mono t2) e2) fun _ _ z => ⟨z.1, z.2.mono t3⟩⟩
    exact ⟨p, C, dx, gs, r2.ref_of, e1, c, na, by rw [Paired.length e2]; exact hn, qq.nx ρ _ σ _ ((t1.trans t2).trans t3) (s.mono ((t1.trans t2).trans t3) l3) q⟩)
end
section
variable {X : Cx} {ρ : Ro} {A : AH} {pos p0 : Pos} {k : AK} {C : Addr} {n : Str} {lv : Nat} {ct : Ct}
theorem pe_mkX0 {CX : CXT} {fa : Addr} {fd : FuncData} {ps : List Str} {sp : Sp} {E : L2.St → XK} (M : Mk X.K C fa) (F : FnOk X.prog X.w X.K X.mg X.base CX lv fa fd ps sp) (hr : Room (lv + 1) X.A) (hg : Gl X n) (hm : X.mg n = some (.ref C)) (hb : Binds X.K fd ps []) (hx : ∀ σ, PassesAt CX X σ (E σ))
    (hdb : (n == ("__debug__" : Str)) = false := by decide) : PE X (.Call (.Name n p0) [] [] pos) (tMkX C sp E tNil) :=
  ⟨fun pins s σ H Q I h => wpAny_Call_Name_kw (ld_glob I hg hm (PySem.W.callWith_K0 I.kIn M.kp (run_mkX (us := []) M F hr hb (hx σ) I .nil h)) hdb)⟩
/-- C() -/
theorem ae_mk0 (F : Ini X.prog X.w X.K X.mg X.base C lv ct) (hm : X.mg n = some (.ref C)) (hr : Room (lv + 1) X.A) (hg : Gl X n) (h : ∀ x y, A x = none → ct [.ref x] (aupd A x (.ins C y [])) (fun d A2 => d = .non ∧ k (.ref x) A2) fun _ _ => False)
    (hdb : (n == ("__debug__" : Str)) = false := by decide) : AE X (.Call (.Name n p0) [] [] pos) ρ A k := fun σ H s Q q => by
  obtain ⟨f, fd, ps, F, M, hb⟩ := F.ex
  refine tm_of (pe_mkX0 (E := fun _ => E0) M F hr hg hm hb (fun σ => fun pins H s e s' I c => passN pins σ H s e s' I c) hdb) (fun x y hx hy ne => ?_)
  obtain ⟨t2, l2⟩ := mkT (vs := []) (C := C) s.hp hx hy ne
  exact ⟨[.ref x], _, _, fun _ _ => False, .one (.ref x), l2, h x y (s.hp.none hx), fun v H' d A' t3 r3 l3 ⟨ed, k3⟩ => ⟨by rw [ed] at r3; exact r3.non_of, q _ H' _ A' (t2.trans t3) (.ref x) l3 k3⟩, fun _ _ _ _ _ z => z⟩
end
end C7
namespace C7
open PySem PySem.Spec PyProof.Rows L2
theorem ae_ifx {X : Cx} {ρ : Ro} {A : AH} {c a b : Expr} {pos : Pos} {k : AK} (h : AET X c ρ A fun bb A1 => (bb = true → AE X a ρ A1 k) ∧ (bb = false → AE X b ρ A1 k)) : AE X (.IfExp c a b pos) ρ A k := fun σ H s Q q =>
  tm_of (pe_ifExp (pt_tm c) (pe_tm a) (pe_tm b)) (h σ H s _ fun bb H1 A1 t1 l1 hb => by
    cases bb with
    | true => exact iteT (hb.1 rfl σ H1 (s.mono t1 l1) Q fun v2 H2 d2 A2 t2 r2 l2 k2 => q v2 H2 d2 A2 (t1.trans t2) r2 l2 k2)
    | false => exact iteF (hb.2 rfl σ H1 (s.mono t1 l1) Q fun v2 H2 d2 A2 t2 r2 l2 k2 => q v2 H2 d2 A2 (t1.trans t2) r2 l2 k2))
theorem Mt.up {P : Program} {w : World} {K : Frag} {mg : Str → Option Value} {base : Heap} {C : Addr} {m : Str} {j k : Nat} {ct : Ct} (F : Mt P w K mg base C m j ct) (h : j ≤ k) : Mt P w K mg base C m k ct :=
  let ⟨f, fd, ps, F, r⟩ := F.ex; ⟨f, fd, ps, F.mono h, r⟩
/-! texts in order: two sorted lists of the same texts are one -/
theorem lt_total : ∀ {a b : List Nat}, ltCps a b = false → ltCps b a = false → a = b
  | [], [], _, _ => rfl
  | [], _ :: _, h, _ => nomatch h
  | _ :: _, [], _, h => nomatch h
  | a :: r, b :: t, h, g => by
    simp only [ltCps, Bool.or_eq_false_iff, Bool.and_eq_false_iff, decide_eq_false_iff_not, beq_eq_false_iff_ne] at h g
    have e : a = b := by omega
    subst e
    rw [lt_total (a := r) (b := t) (h.2.elim (fun z => absurd rfl z) id) (g.2.elim (fun z => absurd rfl z) id)]
theorem le_trans' : ∀ {a b c : List Nat}, ltCps b a = false → ltCps c b = false → ltCps c a = false
  | [], _, [], _, _ => rfl
  | _ :: _, [], _, h, _ => nomatch h
  | _, _ :: _, [], _, h => nomatch h
  | [], _, _ :: _, _, _ => rfl
  | a :: r, b :: t, c :: u, h, g => by
    simp only [ltCps, Bool.or_eq_false_iff, Bool.and_eq_false_iff, decide_eq_false_iff_not, beq_eq_false_iff_ne] at h g ⊢
    refine ⟨by omega, ?_⟩
    by_cases e : c = a
    · right
      have e1 : b = a := by omega
      have e2 : c = b := by omega
      exact le_trans' (h.2.elim (fun z => absurd e1 z) id) (g.2.elim (fun z => absurd e2 z) id)
    · exact .inl e
theorem rising_all : ∀ {l : List Str} {p : Str}, risingS p l = true → (∀ x ∈ l, ltCps x.cps.toList p.cps.toList = false) ∧ sortedS l = true
  | [], _, _ => ⟨(fun x h => nomatch h), rfl⟩
  | y :: r, p, h => by
    have h : (!ltCps y.cps.toList p.cps.toList && risingS y r) = true := h
    rw [Bool.and_eq_true, Bool.not_eq_true'] at h
    obtain ⟨h1, h2⟩ := rising_all h.2
    refine ⟨fun x hx => ?_, h.2⟩
    rcases List.mem_cons.mp hx with rfl | hx
    · exact h.1
    · exact le_trans' h.1 (h1 x hx)
theorem sorted_one : ∀ {xs ys : List Str}, xs.Perm ys → sortedS xs = true → sortedS ys = true → xs = ys
  | [], ys, hp, _, _ => hp.nil_eq
  | x :: xs, [], hp, _, _ => nomatch hp.length_eq
  | x :: xs, y :: ys, hp, h, g => by
    have hx := rising_all (p := x) (l := xs) h
    have hy := rising_all (p := y) (l := ys) g
    have e : x = y := by
      have m1 : x ∈ y :: ys := hp.mem_iff.mp (List.mem_cons_self ..)
      have m2 : y ∈ x :: xs := hp.mem_iff.mpr (List.mem_cons_self ..)
      rcases List.mem_cons.mp m1 with e | m1
      · exact e
      rcases List.mem_cons.mp m2 with e | m2
      · exact e.symm
      · exact TL.ext_tl (lt_total (hy.1 x m1) (hx.1 y m2))
    subst e
    rw [sorted_one ((List.perm_cons x).mp hp) hx.2 hy.2]
theorem lt_asymm : ∀ {a b : List Nat}, ltCps a b = true → ltCps b a = false
  | [], [], h => nomatch h
  | [], _ :: _, _ => rfl
  | _ :: _, [], h => nomatch h
  | a :: r, b :: t, h => by
    simp only [ltCps, Bool.or_eq_true, Bool.and_eq_true, decide_eq_true_eq, beq_iff_eq] at h
    simp only [ltCps, Bool.or_eq_false_iff, Bool.and_eq_false_iff, decide_eq_false_iff_not, beq_eq_false_iff_ne]
    refine ⟨by omega, ?_⟩
    by_cases e : b = a
    · right
      exact lt_asymm (h.elim (fun z => absurd z (by omega)) (·.2))
    · exact .inl e
def insS (x : Str) : List Str → List Str
  | [] => [x]
  | y :: r => if ltCps y.cps.toList x.cps.toList = true then y :: insS x r else x :: y :: r
theorem insS_perm (x : Str) : ∀ l : List Str, (insS x l).Perm (x :: l)
  | [] => .refl _
  | y :: r => by
    unfold insS
    split
    · exact (List.Perm.cons y (insS_perm x r)).trans (List.Perm.swap x y r)
    · exact .refl _
theorem insS_rising {x : Str} : ∀ {l : List Str} {p : Str}, risingS p l = true → ltCps x.cps.toList p.cps.toList = false → risingS p (insS x l) = true
  | [], p, _, h => by
    show (!ltCps x.cps.toList p.cps.toList && true) = true
    rw [h]; rfl
  | y :: r, p, hr, h => by
    have hr : (!ltCps y.cps.toList p.cps.toList && risingS y r) = true := hr
    rw [Bool.and_eq_true] at hr
    unfold insS
    split
    · rename_i h9
      show (!ltCps y.cps.toList p.cps.toList && risingS y (insS x r)) = true
      rw [hr.1, insS_rising hr.2 (lt_asymm h9)]; rfl
    · rename_i h9
      show (!ltCps x.cps.toList p.cps.toList && (!ltCps y.cps.toList x.cps.toList && risingS y r)) = true
      rw [h, Bool.eq_false_iff.mpr h9, hr.2]; rfl
theorem insS_sorted (x : Str) : ∀ {l : List Str}, sortedS l = true → sortedS (insS x l) = true
  | [], _ => rfl
  | y :: r, h => by
    unfold insS
    split
    · rename_i h9
      exact insS_rising (p := y) h (lt_asymm h9)
    · rename_i h9
      show (!ltCps y.cps.toList x.cps.toList && risingS y r) = true
      rw [Bool.eq_false_iff.mpr h9]
      exact h
theorem sorted_ex : ∀ ns : List Str, ∃ ys : List Str, ys.Perm ns ∧ sortedS ys = true
  | [] => ⟨[], .refl _, rfl⟩
  | x :: r => by
    obtain ⟨ys, h1, h2⟩ := sorted_ex r
    exact ⟨insS x ys, (insS_perm x ys).trans (List.Perm.cons x h1), insS_sorted x h2⟩
/-- the names in order -/
noncomputable def srtN (ns : List Str) : List Str := by
  classical
  exact if h : ∃ ys : List Str, ys.Perm ns ∧ sortedS ys = true then h.choose else []
theorem srtN_of {ns ys : List Str} (hp : ys.Perm ns) (hs : sortedS ys = true) : srtN ns = ys := by
  have h : ∃ ys : List Str, ys.Perm ns ∧ sortedS ys = true := ⟨ys, hp, hs⟩
  unfold srtN
  rw [dif_pos h]
  exact sorted_one (h.choose_spec.1.trans hp.symm) h.choose_spec.2 hs
theorem srtN_mem {ns : List Str} {x : Str} (h : x ∈ srtN ns) : x ∈ ns := by
  unfold srtN at h
  split at h
  · rename_i h9
    exact h9.choose_spec.1.mem_iff.mp h
  · cases h
theorem srtN_le (ns : List Str) : (srtN ns).length ≤ ns.length := by
  unfold srtN
  split
  · rename_i h9
    exact Nat.le_of_eq h9.choose_spec.1.length_eq
  · exact Nat.zero_le _
theorem srtN_perm (ns : List Str) : (srtN ns).Perm ns := by
  obtain ⟨ys, h1, h2⟩ := sorted_ex ns
  rw [srtN_of h1 h2]
  exact h1
theorem srtN_len (ns : List Str) : (srtN ns).length = ns.length := (srtN_perm ns).length_eq
section
variable {X : Cx} {ρ : Ro} {A : AH} {a b : Expr} {pos : Pos} {k : AK} {kt : Bool → AH → Prop}
end
theorem aupd_self {A : AH} {p : Addr} {o : AO} (h : A p = some o) : aupd A p o = A := by
  funext b
  unfold aupd
  split
  · rename_i e; rw [e, h]
  · rfl
theorem aupd_comm {A : AH} {p q : Addr} {o u : AO} (h : p ≠ q) : aupd (aupd A p o) q u = aupd (aupd A q u) p o := by
  funext b
  unfold aupd
  by_cases h1 : b = p
  · subst h1
    rw [if_neg h, if_pos rfl, if_pos rfl]
  · by_cases h2 : b = q
    · subst h2; rw [if_pos rfl, if_neg h1, if_pos rfl]
    · rw [if_neg h2, if_neg h1, if_neg h1, if_neg h2]
section
variable {X : Cx} {ρ : Ro} {A : AH} {a : Expr} {pos p0 : Pos} {kvs : List (Str × D)} {p : Addr}
/-- sorted(d), by value -/
theorem av_sortedN (hc : X.calm = true) (hg : Gl X "sorted") (hm : X.mg "sorted" = none) (ha : AV X a ρ A (.ref p)) (hl : A p = some (dkS kvs)) (h64 : kvs.length < 64) (hs : starEach [a] X.env = [(false, eval a X.env)] := by rfl) :
    AV X (.Call (.Name "sorted" p0) [a] [] pos) ρ A (.fz ((srtN (kvs.map (·.1))).map D.str)) :=
  AE.av (AE.frz (al_sortedS hc hg hm ha hl h64 (fun ys hp9 hs9 z hz => ⟨A, _, Ext.new hz, .lst hz aupd_same (Frs.refl _), by rw [srtN_of hp9 hs9], Ext.refl _⟩) hs))
/-- d != {}, as a test -/
theorem aet_neD {lv : Nat} {a : Expr} {bpos : Pos} {kt : Bool → AH → Prop} (hr : Room lv X.A) (ha : AV X a ρ A (.ref p)) (hl : A p = some (dkS kvs)) (q : ∀ A', Ext A A' → kt (!kvs.isEmpty) A') : AET X (.Compare a [.NotEq] [.Dict [] [] bpos] pos) ρ A kt :=
  aet_cmp (op_neE (by have := hr.units; omega)) (nomark _) (ha.ae (ae_dictS fun z hz v u H r1 r2 l Q qq => by
    have hne : p ≠ z := fun e => by rw [e, hz] at hl; cases hl
    obtain ⟨gs, e1, e2⟩ := l.dS (p := p) (kvs := kvs) (by rw [aupd_ne hne]; exact hl)
    obtain ⟨gs0, e3, e4⟩ := l.dS (p := z) (kvs := []) aupd_same
    cases e4
    rw [r1.ref_of, r2.ref_of]
    have hb : (!gs.isEmpty) = !kvs.isEmpty := by
      have := len_pairS e2
      cases gs <;> cases kvs <;> simp_all
    exact ⟨p, z, gs, rfl, rfl, e1, e3, qq _ H _ (TS.refl H) l (by rw [hb]; exact q _ (Ext.new hz))⟩))
end
end C7
namespace C7
open PySem PySem.Spec PyProof.Rows L2
/-! ### a dict keyed by texts is walked: it is locked meanwhile -/
section
variable {X : Cx} {W : WX} {ρ : Ro} {A : AH} {E : AEnds} {st : Stmt} {p : Addr} {kvs : List (Str × D)}
end
end C7
namespace C7
open PySem PySem.Spec PyProof.Rows L2
/-! ### a list comprehension over a range within an except suite -/
abbrev bh (X : Cx) (s : Shared) (H : Hp) (scope : Scope) (ce : Env) (fp : List Addr) (xe : Value → Shared → Prop) : Cx := { (X.blk s H scope ce fp).wish xe with pn := X.pn }
section
variable {X : Cx} {scope : Scope}
theorem pe_lcH {elt tg iter : Expr} {own : List (Str × Nat)} {pos : Pos} {wi : TI} {g : TG} {te : TE} (hst : X.stack = X.outer ∨ (X.stack = X.env :: X.outer ∧ X.env.frame = some X.env.locals)) (hc : L2H.HotC X) (hN : X.N.Nodup) (hi : L2H.PIH X tg iter wi) (ok : BlkOk X.N X.env.scope scope own)
    (hg : ∀ (s : Shared) (H : Hp) (C : Addr) (cl : List (Str × Addr)) (fp : List Addr) (xe : Value → Shared → Prop), PG (bh X s H scope (compEnvC scope cl C X.env) fp xe) tg g)
    (he : ∀ (s : Shared) (H : Hp) (C : Addr) (cl : List (Str × Addr)) (fp : List Addr) (xe : Value → Shared → Prop), PE (bh X s H scope (compEnvC scope cl C X.env) fp xe) elt te)
    (hs : ∀ x, foldedSetIterable iter X.env x = pure x := by intro _; rfl) :
    PE X (.ListComp elt [⟨tg, iter, [], 0⟩] scope pos) (fun σ H Q => tLc wi g tYes te (own.map (·.2)) σ H Q) := by
  refine ⟨fun pins s σ H Q I h => ?_⟩
  have caught : ∀ y ∈ scope.names, y.2 = .free → ∃ c, X.env.cells.lookup y.1 = some c := fun y hy e => (ok.free y hy e).elim (fun k => I.ok.has _ (.inl k)) fun k => I.ok.has _ (.inr k)
  rw [eval_ListComp]
  refine comprehension_at (use := none) rfl hs (closure_ok caught) ok.kind (fun y hy e => (ok.uniq y hy).trans (by rw [e])) (thn (hi.run pins s σ H _ I h) fun xv sa ha => thn ha fun itv sb hb => ?_)
  obtain ⟨p, fp, stand, J, G2, ep, K2, T, at0, away, q⟩ := hb
  subst ep
  refine wpAny_newObj_type (newEnv_comp ?_) (by show 0 ≤ sizeLine; decide)
  generalize hD : sb.heap.objs.size = D
  obtain ⟨M, ⟨m0, w0⟩, turn⟩ := q D (K2.hok.fresh (Nat.le_of_eq hD))
  generalize hsc : ({ sb with heap := sb.heap.push { cls := .type "list", data := .seq ([] : List Value).toArray } } : Shared) = sc
  have hsc' : sc.heap = sb.heap.push { cls := .type "list", data := .seq ([] : List Value).toArray } := by rw [← hsc]
  have K3 : Inv X pins σ (upd G2 D (.lst [])) sc := by
    rw [← hsc]
    exact K2.laid (t' := sb.toks) (fun b o e => Heap.get?_push_of_some _ e) (Nat.le_of_eq hD) ⟨Nat.zero_le _, [], 0, .nil, by rw [← hD]; exact Heap.get?_push_size _ rfl⟩
  have small : ∀ b ∈ fp, b < sb.heap.objs.size := fun b hb => let ⟨_, e, _⟩ := T.obj _ _ at0 b hb; Heap.lt_size e
  have f3 : ∀ b ∈ fp, FpOk X pins (upd G2 D (.lst [])) b := fun b hb => ⟨by rw [upd_ne (by rw [← hD]; exact Nat.ne_of_lt (small b hb))]; exact (away b hb).1, (away b hb).2⟩
  have at3 : stand 0 sc.heap := T.keep _ _ _ at0 fun b _ o e => by rw [hsc']; exact Heap.get?_push_of_some _ e
  have K4 := block_start K3 ok hN fun b hb => ⟨f3 b hb, Nat.lt_of_lt_of_le (small b hb) (by rw [hsc', Heap.size_push]; exact Nat.le_succ _)⟩
  generalize hH3 : upd G2 D (.lst []) = H3 at K3 K4 w0 f3
  generalize hcl : cellsFrom (sc.heap.objs.size + 1) scope.names (cloFrom X.env.cells scope.names []) = cl at K4
  have hsz : sc.heap.objs.size = (compEnvC scope cl sc.heap.objs.size X.env).locals := rfl
  have pe := he sc H3 sc.heap.objs.size cl fp (notedBy (model X.prog X.w) X.A (compEnvC scope cl sc.heap.objs.size X.env) (CompFails (model X.prog X.w) X.A X.xe (compEnvC scope cl sc.heap.objs.size X.env)))
  have pg := hg sc H3 sc.heap.objs.size cl fp (notedBy (model X.prog X.w) X.A (compEnvC scope cl sc.heap.objs.size X.env) (CompFails (model X.prog X.w) X.A X.xe (compEnvC scope cl sc.heap.objs.size X.env)))
  show codeAny _ _ (.compStart (.ListComp elt [⟨tg, iter, [], 0⟩] scope pos) 0 (.ref p) (.ref D) (compEnvC scope cl sc.heap.objs.size X.env))
    (compEnds (model X.prog X.w) X.A X.xe none (EP X pins σ Q) (.ref D) (compEnvC scope cl sc.heap.objs.size X.env)) { sc with heap := pushCells (sc.heap.push { cls := .type "dict", data := .dict #[] }) scope.names }
  generalize hce : compEnvC scope cl sc.heap.objs.size X.env = ce at K4 pe pg hsz ⊢
  generalize hxe : notedBy (model X.prog X.w) X.A ce (CompFails (model X.prog X.w) X.A X.xe ce) = xe at pe pg
  have free3 : ∀ b ∈ fp, H3 b = none := fun b hb => (f3 b hb).1
  generalize hs0 : ({ sc with heap := pushCells (sc.heap.push { cls := .type "dict", data := .dict #[] }) scope.names } : Shared) = s0 at K4 ⊢
  have at4 : stand 0 s0.heap := T.keep _ _ _ at3 fun b _ o e => by rw [← hs0]; exact pushCells_keeps _ _ _ _ (Heap.get?_push_of_some _ e)
  have wk : (bh X sc H3 scope ce fp xe).Ok := ⟨K4.ok.mod, K4.ok.kind, K4.ok.glob, K4.ok.blt, K4.ok.above, K4.ok.inj, K4.ok.has, K4.ok.cab, K4.ok.hd, K4.ok.frames, K4.ok.stk, K4.ok.exf, K4.ok.bs, K4.ok.bsz, K4.ok.noex, K4.ok.exfs, K4.ok.funs, K4.ok.frf⟩
  have pinned : ∀ z ∈ X.pn, s0.heap.get? z.1 = some z.2 ∧ H3 z.1 = none ∧ z.1 ≠ ce.locals ∧ z.1 ∉ frs X.stack ∧ ∀ v, z.2.data ≠ .cell v := fun z hz => by
    obtain ⟨z1, z2, z3, z4, z5⟩ := K3.pin z (List.mem_append_left _ hz)
    refine ⟨by rw [← hs0]; exact pushCells_keeps _ _ _ _ (Heap.get?_push_of_some _ z1), z2, fun e => ?_, ?_, z5⟩
    · have := Heap.lt_size z1
      rw [e, ← hsz] at this
      exact absurd this (Nat.lt_irrefl _)
    · rcases hst with h9 | ⟨h9, hf9⟩
      · rw [h9]; exact z4
      · rw [h9]
        unfold frs
        rw [List.filterMap_cons, hf9]
        exact fun hm => (List.mem_cons.mp hm).elim z3 z4
  have K5 : Inv (bh X sc H3 scope ce fp xe) [] (wipe σ (own.map (·.2))) H3 s0 := ⟨wk, K4.os, K4.bare, K4.base, K4.loc, K4.cell, K4.free, K4.freeC, fun z hz => pinned z (by rw [List.append_nil] at hz; exact hz), K4.hok, K4.len⟩
  have inBlock : ∀ {τ : L2.St} {G : Hp} {t : Shared}, Inv (bh X sc H3 scope ce fp xe) [] τ G t → (∀ b ∈ fp, G b = none) → ∀ b ∈ fp, FpOk (bh X sc H3 scope ce fp xe) [] G b := fun {τ G t} K n b hb =>
    ⟨n b hb, (K.ok.exf b hb).1, K.ok.exfs b hb, .inl hb, fun x c e => (K.ok.exf b hb).2 x c e, fun z hz => (f3 b hb).2.2.2.2.2 z (List.mem_append_left _ (by rw [List.append_nil] at hz; exact hz))⟩
  have loop : codeAny (model X.prog X.w) X.A (.compLoop (.ListComp elt [⟨tg, iter, [], 0⟩] scope pos) 0 (.ref p) (.ref D) ce) (compEnds (model X.prog X.w) X.A X.xe none (EP X pins σ Q) (.ref D) ce) s0 := by
    refine compLoop_any (fun n t => ∃ i G, Inv (bh X sc H3 scope ce fp xe) [] (wipe σ (own.map (·.2))) G t ∧ stand i t.heap ∧ (∀ b ∈ fp, G b = none) ∧ M i n G) ?_ m0 ⟨0, H3, K5, at4, free3, w0⟩
    rintro n t5 ⟨i, G5, K5, at5, n5, w5⟩
    have raised : (notedBy (model X.prog X.w) X.A ce fun e s' => compEnds (model X.prog X.w) X.A X.xe none (EP X pins σ Q) (.ref D) ce (.error e) s') = xe := by
      rw [← hxe]
      rfl
    rw [raised]
    rcases turn i n G5 w5 with ⟨stop, fin⟩ | ⟨more, Nx, hNx, step⟩
    · refine thnF (T.done (bh X sc H3 scope ce fp xe) rfl rfl rfl hc i [] t5 _ G5 (fun _ _ => False) K5 (inBlock K5 n5) at5 stop) fun r t6 ⟨hr, K6⟩ => ?_
      subst hr
      have K7 : Inv X pins σ G5 t6 := K3.call' (ch := fp) K6.os K6.base K6.hok K6.bare fun b hb => let ⟨_, x2, _, x4, x5, x6⟩ := f3 b hb; ⟨x4, x2, x5, x6⟩
      obtain ⟨m, hn, _⟩ := K6.loc
      obtain ⟨g0, g1, _, g4, g5, g6⟩ := K3.fpOk (b := ce.locals) (H' := G5) (Nat.le_of_eq hsz) K6.free
      exact ⟨m, hn, fun h2 sm => ⟨.ref D, G5, K7.turned (t' := t6.toks) (fun b o hb e => (sm.2 b hb).trans e) g0 g1 g4 g5 g6, rfl, fin⟩⟩
    · refine thnF (T.item (bh X sc H3 scope ce fp xe) rfl rfl rfl hc i [] t5 _ G5 (fun _ _ => False) K5 (inBlock K5 n5) at5 more) fun r t6 ⟨u, hr, h6⟩ => ?_
      subst hr
      refine thnF h6 fun _ t7 ⟨x, G7, K7, r7, y7, at7, n7⟩ => ?_
      refine thn (pg.run _ t7 _ G7 x u _ (K7.pinned (inBlock K7 n7) (T.obj _ _ at7)) r7 (step x G7 y7)) fun _ t8 ⟨τ8, G8, K8, hw8, q8⟩ => ?_
      refine thn ((pts_nil (X := bh X sc H3 scope ce fp xe)).run _ t8 τ8 G8 _ K8 q8) fun b t9 ⟨G9, K9, q9⟩ => ?_
      have behind : ∀ {t : Shared} {G : Hp}, Inv (bh X sc H3 scope ce fp xe) ([] ++ pinsAt fp t7.heap) τ8 G t → Nx G → ∃ m, m < n ∧ ∃ i G, Inv (bh X sc H3 scope ce fp xe) [] (wipe σ (own.map (·.2))) G t ∧ stand i t.heap ∧ (∀ b ∈ fp, G b = none) ∧ M i m G := fun {t G} K nx => by
        obtain ⟨m', hm, w'⟩ := hNx G nx
        have held : ∀ b ∈ fp, ∀ o, t7.heap.get? b = some o → t.heap.get? b = some o ∧ G b = none := fun b hb o e =>
          have z := K.pin (b, o) (List.mem_append_right _ (List.mem_append_right _ (mem_pinsAt hb e)))
          And.intro z.1 z.2.1
        refine ⟨m', hm, i + 1, G, (K.unpinned (pins := [])).weak (by rw [← hw8, wipe_length]) (fun j v e => (wipe_some (hw8 ▸ e)).1), T.keep _ _ _ at7 fun b hb o e => (held b hb o e).1, fun b hb => ?_, w'⟩
        obtain ⟨o, e, _⟩ := T.obj _ _ at7 b hb
        exact (held b hb o e).2
      cases b with
      | false =>
        rw [if_neg Bool.false_ne_true] at q9 ⊢
        exact behind K9 q9
      | true =>
        rw [if_pos rfl] at q9 ⊢
        refine thn (pe.run _ t9 τ8 G9 _ K9 q9) fun z t10 ⟨yv, G10, K10, r10, acc, hD10, hz10, nx⟩ => ?_
        exact app_ok (X := bh X sc H3 scope ce fp xe) K10 hD10 hz10 r10 fun t11 K11 => behind K11 nx
  exact codeAny_compStart_list loop (T.self X.A 0 _ _ _ at4 loop)
end
def bhE (X : Cx) (scope : Scope) (e : Expr) : TE := fun τ H Q => ∀ (s : Shared) (H0 : Hp) (C : Addr) (cl : List (Str × Addr)) (fp : List Addr) (xe : Value → Shared → Prop), TM (bh X s H0 scope (compEnvC scope cl C X.env) fp xe) e τ H Q
def bhG (X : Cx) (scope : Scope) (e : Expr) : TG := fun v τ H Q => ∀ (s : Shared) (H0 : Hp) (C : Addr) (cl : List (Str × Addr)) (fp : List Addr) (xe : Value → Shared → Prop), TMG (bh X s H0 scope (compEnvC scope cl C X.env) fp xe) e v τ H Q
section
variable {X : Cx} {ρ : Ro} {A : AH} {a elt tg : Expr} {pos p0 rp : Pos} {k : AK}
/-- [elt for tg in range(j)], the elements by value -/
theorem al_lcH {β : Type} {f : β → D} {F : Nat → β} {j : Int} {is : List Nat} {scope : Scope} {own : List (Str × Nat)} (hst : X.stack = X.outer ∨ (X.stack = X.env :: X.outer ∧ X.env.frame = some X.env.locals)) (hc : L2H.HotC X) (hN : X.N.Nodup) (ok : BlkOk X.N X.env.scope scope own) (hsub : ∀ i ∈ is, i ∈ own.map (·.2))
    (hg : Gl X "range") (hm : X.mg "range" = none) (h : AV X a ρ A (.int j)) (h1 : -(2 ^ 62) ≤ j) (h2 : j < 2 ^ 62) (hz : j.toNat ≤ sizeLine)
    (el : ∀ i, i < j.toNat → ∃ ρ2, ∀ (s : Shared) (H : Hp) (C : Addr) (cl : List (Str × Addr)) (fp : List Addr) (xe : Value → Shared → Prop), AG (bh X s H scope (compEnvC scope cl C X.env) fp xe) tg is (wipeR ρ (own.map (·.2))) (.int (i : Int)) ρ2 ∧ ∀ A', Ext A A' → AV (bh X s H scope (compEnvC scope cl C X.env) fp xe) elt ρ2 A' (f (F i)))
    (hs1 : starEach [a] X.env = [(false, eval a X.env)] := by rfl) (hs : ∀ x, foldedSetIterable (.Call (.Name "range" p0) [a] [] rp) X.env x = pure x := by intro _; rfl) : AL X (.ListComp elt [⟨tg, .Call (.Name "range" p0) [a] [] rp, [], 0⟩] scope pos) ρ A (((List.range j.toNat).map F).map f) := fun k q σ H s Q qq => by
  refine tm_of (pe_lcH (g := bhG X scope tg) (te := bhE X scope elt) hst hc hN (L2H.pi_range1H hg hm (pa_tm [a]) hs1) ok (fun s H0 C cl fp xe => ⟨fun pins s1 σ1 H1 v u Q1 I r h => (h s H0 C cl fp xe).go pins s1 u I r⟩)
    (fun s H0 C cl fp xe => ⟨fun pins s1 σ1 H1 Q1 I h => (h s H0 C cl fp xe).go pins s1 I⟩) hs) ?_
  refine avs_cons h avs_nil hs1 σ H s _ fun vs H1 t1 r1 l1 => ?_
  obtain ⟨v, rfl, r9⟩ := rps1 r1
  rw [r9.int_of]
  refine ⟨j, rfl, h1, h2, fun D hD => ?_⟩
  have wk := wk_range X.K H1 0 j.toNat
  refine ⟨fun i m H' => ∃ A1, TS H1 H' ∧ A1 D = none ∧ Ext A A1 ∧ Rel X.K (aupd A1 D (.lst (((List.range i).map F).map f))) H' ∧ m = j.toNat - i ∧ i ≤ j.toNat, ⟨j.toNat, A, TS.new hD, l1.none hD, Ext.refl _, (l1.newL hD .nil).2, by simp, Nat.zero_le _⟩, ?_⟩
  rintro i m H2 ⟨A1, t2, hD1, x1, l2, rfl, hle⟩
  by_cases hlt : i < j.toNat
  · refine .inr ⟨wk.go i H2 _ hlt t2 l2 trivial, fun H' => ∃ A1, TS H1 H' ∧ A1 D = none ∧ Ext A A1 ∧ Rel X.K (aupd A1 D (.lst (((List.range (i + 1)).map F).map f))) H', ?_, ?_⟩
    · rintro H' ⟨A2, t', d', x', l'⟩
      exact ⟨j.toNat - (i + 1), by omega, A2, t', d', x', l', rfl, hlt⟩
    · intro x H3 y3
      obtain ⟨t3, l3, r3⟩ := wk.yl i H2 _ x H3 hlt t2 l2 trivial y3
      obtain ⟨ρ2, hb⟩ := el i hlt
      intro s1 H01 C1 cl1 fp1 xe1
      have sW : Sr X.K (wipeR ρ (own.map (·.2))) (aupd A1 D (.lst (((List.range i).map F).map f))) (L2.wipe σ (own.map (·.2))) H3 := (s.mono ((t1.trans t2).trans t3) (l3.sub ((x1.trans (Ext.new hD1))))).wipe _ |>.mono (TS.refl _) l3
      refine (hb s1 H01 C1 cl1 fp1 xe1).1 x _ H3 _ sW (by rw [Int.zero_add] at r3; exact r3) _ fun σ4 hl4 hj4 s4 => ?_
      refine ⟨(wipe_eq hl4 fun j hj => hj4 j fun z => hj (hsub j z)).trans (wipe_wipe _), ?_⟩
      unfold tYes
      dsimp only
      rw [if_pos rfl]
      intro s2 H02 C2 cl2 fp2 xe2
      refine (hb s2 H02 C2 cl2 fp2 xe2).2 _ (x1.trans (Ext.new hD1)) σ4 H3 s4 _ fun v H4 t4 r4 l4 => ?_
      obtain ⟨vs, e1, e2⟩ := l4.lst aupd_same
      obtain ⟨t5, l5⟩ := l4.putL e1 (e2.append (.one r4))
      refine ⟨vs, e1, ?_, A1, ((t2.trans t3).trans t4).trans t5, hD1, x1, ?_⟩
      · rw [e2.length, List.length_map, List.length_map, List.length_range]; omega
      · rw [aupd_aupd] at l5
        rw [List.range_succ, List.map_append, List.map_append]
        exact l5
  · have e : i = j.toNat := by omega
    subst e
    refine .inl ⟨wk.st H2 _ t2 l2 trivial, ?_⟩
    exact qq (.ref D) H2 (.ref D) _ (t1.trans t2) (.ref D) (l2.sub (x1.upd D _)) (q D (x1.none hD1))
end
end C7
namespace C7
open PySem PySem.Spec PyProof.Rows L2
theorem inV_int {i : Int} {ys : List Int} : inV (.int i) (ys.map V.int) = decide (i ∈ ys) := by
  unfold inV
  induction ys with
  | nil => rfl
  | cons y ys ih =>
    show (eqV (.int y) (.int i) || inV (.int i) (ys.map V.int)) = _
    unfold inV
    rw [ih, show eqV (.int y) (.int i) = (y == i) from rfl]
    by_cases e : y = i
    · subst e; simp
    · have : ¬ i = y := fun z => e z.symm
      simp [e, this]
theorem eqv_strs : ∀ xs ys : List Str, PyData.eqvAll (xs.map PyData.str) (ys.map PyData.str) = decide (xs = ys)
  | [], [] => rfl
  | [], _ :: _ => rfl
  | _ :: _, [] => rfl
  | x :: xs, y :: ys => by
    rw [List.map_cons, List.map_cons, PyData.eqvAll, eqv_strs xs ys]
    show ((x == y) && _) = _
    rw [Bool.eq_iff_iff]
    simp
theorem lay_strs : ∀ {xs : List Str}, (∀ x ∈ xs, PyData.strOk x = true) → PyData.canLayAll0 (xs.map PyData.str) = true
  | [], _ => rfl
  | x :: xs, h => by
    rw [List.map_cons, PyData.canLayAll0, lay_strs fun y hy => h y (List.mem_cons_of_mem _ hy)]
    show (PyData.strOk x && true) = true
    rw [h x (List.mem_cons_self ..)]; rfl
theorem dep_strs : ∀ xs : List Str, PyData.depthAll (xs.map PyData.str) ≤ 0
  | [] => Nat.le_refl _
  | x :: xs => by
    rw [List.map_cons, PyData.depthAll]
    exact Nat.max_le.mpr ⟨Nat.le_refl _, dep_strs xs⟩
theorem pys_strs (A : AH) : ∀ xs : List Str, Pys A (xs.map D.str) (xs.map PyData.str)
  | [] => .nil
  | x :: xs => .cons (.str x) (pys_strs A xs)
theorem shp_strs {xs : List Str} (h : ∀ x ∈ xs, PyData.strOk x = true) : SeqAt.shaped (.list (xs.map PyData.str)) = true := by
  refine shp (lay_strs h) ?_
  have := dep_strs xs
  show PyData.depthAll _ + 1 ≤ 64
  omega
section
variable {X : Cx} {ρ : Ro} {A : AH} {a b : Expr} {pos p0 : Pos} {i : Int} {ys : List Int} {xs : List Str} {x : D}
theorem at_inTi (ha : AV X a ρ A (.int i)) (hb : AV X b ρ A (.tup (ys.map D.int))) (hm : behindInMarks .In b = false := by rfl) : AT X (.Compare a [.In] [b] pos) ρ A (decide (i ∈ ys)) :=
  at_cmp op_in_seq hm ha hb fun v w H r1 r2 l Q q => by
    obtain ⟨p, vs, rfl, h1, h2⟩ := r2.tup_of
    rw [r1.int_of]
    have e := h2.ints
    subst e
    refine ⟨p, _, rfl, .inr h1, rfl, by rw [List.all_map]; simp [flatV, Function.comp_def], ?_⟩
    rw [if_neg Bool.false_ne_true, inV_int]
    exact q H (TS.refl H) l
/-- sorted(texts), by value -/
theorem av_sortedL (hg : Gl X "sorted") (hm : X.mg "sorted" = none) (ha : AV X a ρ A x) (hl : IsL A x (xs.map D.str)) (h64 : xs.length < 64) (hs : starEach [a] X.env = [(false, eval a X.env)] := by rfl) :
    AV X (.Call (.Name "sorted" p0) [a] [] pos) ρ A (.fz ((srtN xs).map D.str)) :=
  AE.av (AE.frz (ae_callB cr_sortedS hg hm (by decide +kernel) (aes_cons (ha.ae (aes_nil (fun vs H r l Q qq => by
    obtain ⟨v, rfl, r1⟩ := rps1 r
    obtain ⟨p, ws, rfl, h1, h2⟩ := hl.sq r1 l
    have e := strs_of h2
    subst e
    refine ⟨p, xs, rfl, h1, h64, fun ys z hp9 hs9 hz => ?_⟩
    have hv : Rps X.K H (ys.map V.str) (ys.map D.str) := by
      clear hp9 hs9
      induction ys with
      | nil => exact .nil
      | cons y ys ih => exact .cons (.str y) ih
    obtain ⟨t, l'⟩ := l.newL hz hv
    exact qq _ _ (.ref z) _ t (.ref z) l' ⟨A, _, Ext.new (l.none hz), .lst (l.none hz) aupd_same (Frs.refl _), by rw [srtN_of hp9 hs9], Ext.refl _⟩))) hs) (he := hs) (hpl := rfl)))
theorem aet_neLS {lv : Nat} {kt : Bool → AH → Prop} (hr : Room lv X.A) (h : AE X a ρ A fun x A1 => AE X b ρ A1 fun y A2 => ∃ xs zs : List Str, IsL A2 x (xs.map D.str) ∧ IsL A2 y (zs.map D.str) ∧ (∀ x ∈ xs, PyData.strOk x = true) ∧ (∀ x ∈ zs, PyData.strOk x = true) ∧ kt (!decide (xs = zs)) A2) : AET X (.Compare a [.NotEq] [b] pos) ρ A kt :=
  aet_neP hr (h.mono fun x A1 h1 => h1.mono fun y A2 ⟨xs, zs, l1, l2, o1, o2, k⟩ => ⟨_, _, .lst l1 (pys_strs A2 xs), .lst l2 (pys_strs A2 zs), shp_strs o1, shp_strs o2, by
    have e : PyData.eqv (.list (xs.map PyData.str)) (.list (zs.map PyData.str)) = decide (xs = zs) := eqv_strs xs zs
    rw [e]; exact k⟩)
end
section
variable {X : Cx} {W : WX} {ρ : Ro} {A : AH} {e o : Expr} {es : List Expr} {pos apos : Pos} {k : AK} {lv : Nat} {p C dx : Addr} {fs : List (Str × D)} {m : Str} {ct : Ct} {xc : Value → AH → Prop}
/-- a method, the arguments may raise, too -/
theorem aex_mtA (F : Mt X.prog X.w X.K X.mg X.base C m lv ct) (tk : L2N.Takes X W) (c : Cls X.K C) (hr : Room lv X.A) (ho : AV X o ρ A (.ref p)) (hl : A p = some (.ins C dx fs)) (hn : fs.lookup m = none) (h : AEsx X W (e :: es) ρ A xc fun ds A1 => ct (.ref p :: ds) A1 k xc)
    {pl : Sem Bool} (hst : starEach (e :: es) X.env = (false, eval e X.env) :: starEach es X.env := by rfl) (hpl : (backTo pos (starEach es X.env)).any (·.1) = false := by rfl)
    (ht : eval (.Call (.Attribute o m apos) (e :: es) [] pos) X.env = (eval o X.env >>= fun ov => standAt apos.atName >>= fun _ => holding [ov] (getMethod ov m pl) >>= fun z => callWith pos z.1 z.2 (backTo pos (starEach (e :: es) X.env)) (backToKw pos (keywordEach [] X.env))) := by rfl) : AEx X W (.Call (.Attribute o m apos) (e :: es) [] pos) ρ A xc k := fun σ H s Q q hx0 => by
  obtain ⟨f, fd, ps, F, M, hb⟩ := F.ex
  refine tm_of (pe_mtX (E := WE W) (pe_tm o) c M F hr hb (fun σ => L2N.passAt tk σ) (pa_tm (e :: es)) hst hpl ht) (ho σ H s _ fun v H1 t1 r1 l1 => ?_)
  obtain ⟨gs, e1, e2⟩ := l1.ins hl
  refine ⟨p, dx, gs, r1.ref_of, e1, (fd_look e2).1 hn, h σ H1 (s.mono t1 l1) _ (fun vs H2 ds A2 t2 r2 l2 h2 => ?_) fun c H' A' t3 l3 k3 => hx0 c H' A' (t1.trans t3) l3 k3⟩
  rw [r1.ref_of]
  exact ⟨.ref p :: ds, A2, k, xc, .cons (.ref p) r2, l2, h2, fun v H' d A' t3 r3 l3 k3 => q v H' d A' ((t1.trans t2).trans t3) r3 l3 k3, fun c H' A' t3 l3 k3 => hx0 c H' A' ((t1.trans t2).trans t3) l3 k3⟩
end
end C7
namespace Lw
open PySem PySem.Spec PyProof.Rows L2 C7
def topS (i : Nat) : Stmt := PySem.Challenge.pw_curveseat_k83_rows_refused.main.body.getD i (.Pass ⟨0, 0, 0, 0⟩)
abbrev s_common_part : Stmt := topS 11
theorem sc_common_part : FnScope ["one", "other", "whole", "rest"] ["one", "other"] (defScope s_common_part) := ⟨rfl, rfl, rfl, by decide +kernel, rfl, by decide +kernel, by decide +kernel⟩
abbrev s_share : Stmt := topS 12
theorem sc_share : FnScope ["top", "bottom", "part"] ["top", "bottom"] (defScope s_share) := ⟨rfl, rfl, rfl, by decide +kernel, rfl, by decide +kernel, by decide +kernel⟩
abbrev s_plus : Stmt := topS 13
theorem sc_plus : FnScope ["one", "other"] ["one", "other"] (defScope s_plus) := ⟨rfl, rfl, rfl, by decide +kernel, rfl, by decide +kernel, by decide +kernel⟩
abbrev s_minus : Stmt := topS 14
abbrev s_times : Stmt := topS 15
theorem sc_times : FnScope ["one", "other"] ["one", "other"] (defScope s_times) := ⟨rfl, rfl, rfl, by decide +kernel, rfl, by decide +kernel, by decide +kernel⟩
abbrev s_under : Stmt := topS 16
abbrev s_between : Stmt := topS 17
abbrev s_on_way : Stmt := topS 19
abbrev s_step : Stmt := topS 20
abbrev s_moved : Stmt := topS 21
theorem sc_moved : FnScope ["place", "by", "many"] ["place", "by", "many"] (defScope s_moved) := ⟨rfl, rfl, rfl, by decide +kernel, rfl, by decide +kernel, by decide +kernel⟩
abbrev s_next_row : Stmt := topS 24
abbrev s_rows : Stmt := topS 25
abbrev s_point : Stmt := topS 26
abbrev s_ways : Stmt := topS 27
theorem sc_ways : FnScope ["n", "found", "k"] ["n"] (defScope s_ways) := ⟨rfl, rfl, rfl, by decide +kernel, rfl, by decide +kernel, by decide +kernel⟩
abbrev s_sum_of : Stmt := topS 28
theorem sc_sum_of : FnScope ["points", "shares", "found", "place", "part"] ["points", "shares"] (defScope s_sum_of) := ⟨rfl, rfl, rfl, by decide +kernel, rfl, by decide +kernel, by decide +kernel⟩
abbrev s_polar : Stmt := topS 29
abbrev s_cut : Stmt := topS 31
abbrev s_stretch : Stmt := topS 32
abbrev s_turned : Stmt := topS 33
abbrev s_whole_points : Stmt := topS 35
abbrev s_goes_left : Stmt := topS 36
abbrev s_chain : Stmt := topS 37
abbrev s_hull_of_whole : Stmt := topS 38
abbrev s_hull : Stmt := topS 39
abbrev s_least_of : Stmt := topS 40
abbrev s_greatest_of : Stmt := topS 41
abbrev s_box : Stmt := topS 42
abbrev s_speed : Stmt := topS 44
abbrev s_smoothness : Stmt := topS 46
abbrev s_blend : Stmt := topS 48
abbrev s_map_point : Stmt := topS 49
abbrev s_mapped : Stmt := topS 50
abbrev s_turn_of : Stmt := topS 53
abbrev s_along : Stmt := topS 54
abbrev s_steps_between : Stmt := topS 55
abbrev s_ahead_of : Stmt := topS 56
abbrev s_ahead_of_two : Stmt := topS 57
abbrev s_ahead_of_all : Stmt := topS 58
abbrev s_parts_of_two : Stmt := topS 59
abbrev s_parts_of : Stmt := topS 60
abbrev s_line_by : Stmt := topS 61
abbrev s_common_by : Stmt := topS 62
abbrev s_parting : Stmt := topS 63
abbrev s_halved : Stmt := topS 67
abbrev s_stretches : Stmt := topS 68
abbrev s_beneath : Stmt := topS 69
abbrev s_meets : Stmt := topS 71
abbrev s_powers : Stmt := topS 73
theorem sc_powers : FnScope ["curve", "n", "found", "k", "many", "parts", "at", "more"] ["curve"] (defScope s_powers) := ⟨rfl, rfl, rfl, by decide +kernel, rfl, by decide +kernel, by decide +kernel⟩
abbrev s_of_powers : Stmt := topS 74
abbrev s_raised : Stmt := topS 78
theorem sc_raised : FnScope ["curve", "many", "found", "k"] ["curve"] (defScope s_raised) := ⟨rfl, rfl, rfl, by decide +kernel, rfl, by decide +kernel, by decide +kernel⟩
abbrev s_lowered : Stmt := topS 79
theorem sc_lowered : FnScope ["curve", "some"] ["curve"] (defScope s_lowered) := ⟨rfl, rfl, rfl, by decide +kernel, rfl, by decide +kernel, by decide +kernel⟩
abbrev s_least : Stmt := topS 80
abbrev s_same : Stmt := topS 81
abbrev s_show_share : Stmt := topS 86
theorem sc_show_share : FnScope ["one"] ["one"] (defScope s_show_share) := ⟨rfl, rfl, rfl, by decide +kernel, rfl, by decide +kernel, by decide +kernel⟩
abbrev s_show_point : Stmt := topS 87
theorem sc_show_point : FnScope ["one"] ["one"] (defScope s_show_point) := ⟨rfl, rfl, rfl, by decide +kernel, rfl, by decide +kernel, by decide +kernel⟩
abbrev s_show_curve : Stmt := topS 88
theorem sc_show_curve : FnScope ["curve", "seat"] ["curve"] (defScope s_show_curve) := ⟨rfl, rfl, rfl, by decide +kernel, rfl, by decide +kernel, by decide +kernel⟩
abbrev s_read_whole : Stmt := topS 89
theorem sc_read_whole : FnScope ["text", "figures", "sign"] ["text"] (defScope s_read_whole) := ⟨rfl, rfl, rfl, by decide +kernel, rfl, by decide +kernel, by decide +kernel⟩
abbrev s_read_share : Stmt := topS 90
theorem sc_read_share : FnScope ["text", "top", "bar", "bottom", "found"] ["text"] (defScope s_read_share) := ⟨rfl, rfl, rfl, by decide +kernel, rfl, by decide +kernel, by decide +kernel⟩
abbrev s_read_point : Stmt := topS 91
theorem sc_read_point : FnScope ["text", "across", "comma", "up"] ["text"] (defScope s_read_point) := ⟨rfl, rfl, rfl, by decide +kernel, rfl, by decide +kernel, by decide +kernel⟩
abbrev s_read_curve : Stmt := topS 92
theorem sc_read_curve : FnScope ["text", "parts", "part"] ["text"] (defScope s_read_curve) := ⟨rfl, rfl, rfl, by decide +kernel, rfl, by decide +kernel, by decide +kernel⟩
abbrev s_read_name : Stmt := topS 98
theorem sc_read_name : FnScope ["word", "sign"] ["word"] (defScope s_read_name) := ⟨rfl, rfl, rfl, by decide +kernel, rfl, by decide +kernel, by decide +kernel⟩
abbrev s_read_level : Stmt := topS 99
theorem sc_read_level : FnScope ["word"] ["word"] (defScope s_read_level) := ⟨rfl, rfl, rfl, by decide +kernel, rfl, by decide +kernel, by decide +kernel⟩
abbrev s_read_word : Stmt := topS 100
theorem sc_read_word : FnScope ["word", "shape"] ["word", "shape"] (defScope s_read_word) := ⟨rfl, rfl, rfl, by decide +kernel, rfl, by decide +kernel, by decide +kernel⟩
abbrev s_read_row : Stmt := topS 101
theorem sc_read_row : FnScope ["row", "words", "word", "shape"] ["row"] (defScope s_read_row) := ⟨rfl, rfl, rfl, by decide +kernel, rfl, by decide +kernel, by decide +kernel⟩
abbrev s__law_cell_at : Stmt := topS 104
theorem sc__law_cell_at : FnScope ["_law_script", "_law_k"] ["_law_script", "_law_k"] (defScope s__law_cell_at) := ⟨rfl, rfl, rfl, by decide +kernel, rfl, by decide +kernel, by decide +kernel⟩
abbrev s__law_stream : Stmt := topS 105
theorem sc__law_stream : FnScope ["_law_cell", "_law_many", "_law_number", "_law_found", "_law_k"] ["_law_cell", "_law_many"] (defScope s__law_stream) := ⟨rfl, rfl, rfl, by decide +kernel, rfl, by decide +kernel, by decide +kernel⟩
abbrev s__law_share : Stmt := topS 106
theorem sc__law_share : FnScope ["_law_top", "_law_bottom", "_law_one", "_law_other", "_law_rest"] ["_law_top", "_law_bottom"] (defScope s__law_share) := ⟨rfl, rfl, rfl, by decide +kernel, rfl, by decide +kernel, by decide +kernel⟩
abbrev s__law_way : Stmt := topS 107
theorem sc__law_way : FnScope ["_law_cell", "_law_way_here", "_law_bottom", "_law_start"] ["_law_cell"] (defScope s__law_way) := ⟨rfl, rfl, rfl, by decide +kernel, rfl, by decide +kernel, by decide +kernel⟩
abbrev s__law_place : Stmt := topS 108
theorem sc__law_place : FnScope ["_law_cell", "_law_way_here", "_law_bottom", "_law_kind", "_law_start", "_law_by", "_law_row"] ["_law_cell", "_law_way_here"] (defScope s__law_place) := ⟨rfl, rfl, rfl, by decide +kernel, rfl, by decide +kernel, by decide +kernel⟩
abbrev s__law_handed : Stmt := topS 109
theorem sc__law_handed : FnScope ["_law_places", "_law_bottom", "_law_x", "_law_y"] ["_law_places", "_law_bottom"] (defScope s__law_handed) := ⟨rfl, rfl, rfl, by decide +kernel, rfl, by decide +kernel, by decide +kernel⟩
abbrev s__law_seats : Stmt := topS 110
theorem sc__law_seats : FnScope ["_law_cell", "_law_many", "_law_way_here", "_law_one"] ["_law_cell", "_law_many", "_law_way_here"] (defScope s__law_seats) := ⟨rfl, rfl, rfl, by decide +kernel, rfl, by decide +kernel, by decide +kernel⟩
abbrev s__law_names : Stmt := topS 111
theorem sc__law_names : FnScope ["_law_cell", "_law_many", "_law_letters", "_law_row", "_law_size", "_law_at", "_law_word", "_law_found", "_law_k", "_law_name", "_law_j", "_law_place_here"] ["_law_cell", "_law_many"] (defScope s__law_names) := ⟨rfl, rfl, rfl, by decide +kernel, rfl, by decide +kernel, by decide +kernel⟩
abbrev s__law_share_text : Stmt := topS 112
theorem sc__law_share_text : FnScope ["_law_one"] ["_law_one"] (defScope s__law_share_text) := ⟨rfl, rfl, rfl, by decide +kernel, rfl, by decide +kernel, by decide +kernel⟩
abbrev s__law_point_text : Stmt := topS 113
theorem sc__law_point_text : FnScope ["_law_place_here"] ["_law_place_here"] (defScope s__law_point_text) := ⟨rfl, rfl, rfl, by decide +kernel, rfl, by decide +kernel, by decide +kernel⟩
abbrev s__law_curve_text : Stmt := topS 114
theorem sc__law_curve_text : FnScope ["_law_curve", "_law_place_here"] ["_law_curve"] (defScope s__law_curve_text) := ⟨rfl, rfl, rfl, by decide +kernel, rfl, by decide +kernel, by decide +kernel⟩
abbrev s__law_filled : Stmt := topS 115
theorem sc__law_filled : FnScope ["_law_text", "_law_a", "_law_b", "_law_odd", "_law_found", "_law_sign"] ["_law_text", "_law_a", "_law_b", "_law_odd"] (defScope s__law_filled) := ⟨rfl, rfl, rfl, by decide +kernel, rfl, by decide +kernel, by decide +kernel⟩
abbrev s__law_no_rows : Stmt := topS 116
theorem sc__law_no_rows : FnScope ["_law_a", "_law_b", "_law_some", "_law_text"] ["_law_a", "_law_b"] (defScope s__law_no_rows) := ⟨rfl, rfl, rfl, by decide +kernel, rfl, by decide +kernel, by decide +kernel⟩
abbrev s__law_no_words : Stmt := topS 117
theorem sc__law_no_words : FnScope ["_law_a", "_law_b", "_law_odd", "_law_some", "_law_text"] ["_law_a", "_law_b", "_law_odd"] (defScope s__law_no_words) := ⟨rfl, rfl, rfl, by decide +kernel, rfl, by decide +kernel, by decide +kernel⟩
abbrev s__law_no_names : Stmt := topS 118
theorem sc__law_no_names : FnScope ["_law_a", "_law_b", "_law_odd", "_law_some", "_law_text"] ["_law_a", "_law_b", "_law_odd"] (defScope s__law_no_names) := ⟨rfl, rfl, rfl, by decide +kernel, rfl, by decide +kernel, by decide +kernel⟩
abbrev s__law_strangers : Stmt := topS 119
theorem sc__law_strangers : FnScope ["_law_a", "_law_odd", "_law_some", "_law_text"] ["_law_a", "_law_odd"] (defScope s__law_strangers) := ⟨rfl, rfl, rfl, by decide +kernel, rfl, by decide +kernel, by decide +kernel⟩
abbrev s__law_case : Stmt := topS 120
theorem sc__law_case : FnScope ["_law_cell", "_law_names_here", "_law_stranger", "_law_row", "_law_a", "_law_b", "_law_way_here", "_law_some"] ["_law_cell", "_law_names_here", "_law_stranger"] (defScope s__law_case) := ⟨rfl, rfl, rfl, by decide +kernel, rfl, by decide +kernel, by decide +kernel⟩
abbrev s__law_refused : Stmt := topS 121
theorem sc__law_refused : FnScope ["_law_desk", "_law_row", "_law_kind", "e", "_law_kinds", "_law_k"] ["_law_desk", "_law_row", "_law_kind"] (defScope s__law_refused) := ⟨rfl, rfl, rfl, by decide +kernel, rfl, by decide +kernel, by decide +kernel⟩
abbrev s__law_state : Stmt := topS 122
theorem sc__law_state : FnScope ["_law_desk", "_law_names_here", "_law_name"] ["_law_desk", "_law_names_here"] (defScope s__law_state) := ⟨rfl, rfl, rfl, by decide +kernel, rfl, by decide +kernel, by decide +kernel⟩
abbrev s_law : Stmt := topS 123
theorem sc_law : FnScope ["_law_script", "_law_names_here", "_law_stranger", "_law_desk", "_law_way_here", "_law_due", "_law_k", "_law_many", "_law_text", "_law_row", "_law_kind"] ["_law_script"] (defScope s_law) := ⟨rfl, rfl, rfl, by decide +kernel, rfl, by decide +kernel, by decide +kernel⟩
abbrev s_Sieve___init__ : Stmt := inClass (topS 70) 0
abbrev s_Sieve_look : Stmt := inClass (topS 70) 1
abbrev s_Sieve_go_down : Stmt := inClass (topS 70) 2
abbrev s_Desk___init__ : Stmt := inClass (topS 102) 0
theorem sc_Desk___init__ : FnScope ["self"] ["self"] (defScope s_Desk___init__) := ⟨rfl, rfl, rfl, by decide +kernel, rfl, by decide +kernel, by decide +kernel⟩
abbrev s_Desk_say : Stmt := inClass (topS 102) 1
theorem sc_Desk_say : FnScope ["self", "row", "word", "parts", "k", "curve"] ["self", "row"] (defScope s_Desk_say) := ⟨rfl, rfl, rfl, by decide +kernel, rfl, by decide +kernel, by decide +kernel⟩
abbrev s_Desk_put : Stmt := inClass (topS 102) 2
theorem sc_Desk_put : FnScope ["self", "name", "curve"] ["self", "name", "curve"] (defScope s_Desk_put) := ⟨rfl, rfl, rfl, by decide +kernel, rfl, by decide +kernel, by decide +kernel⟩
abbrev s_Desk_compared : Stmt := inClass (topS 102) 3
theorem sc_Desk_compared : FnScope ["self", "word", "one", "other", "last", "pairs", "i", "j"] ["self", "word", "one", "other", "last"] (defScope s_Desk_compared) := ⟨rfl, rfl, rfl, by decide +kernel, rfl, by decide +kernel, by decide +kernel⟩
abbrev s_Desk_asked : Stmt := inClass (topS 102) 4
theorem sc_Desk_asked : FnScope ["self", "word", "curve", "parts", "corner", "one"] ["self", "word", "curve", "parts"] (defScope s_Desk_asked) := ⟨rfl, rfl, rfl, by decide +kernel, rfl, by decide +kernel, by decide +kernel⟩
abbrev s_Desk_changed : Stmt := inClass (topS 102) 5
theorem sc_Desk_changed : FnScope ["self", "word", "curve", "parts", "first", "second"] ["self", "word", "curve", "parts"] (defScope s_Desk_changed) := ⟨rfl, rfl, rfl, by decide +kernel, rfl, by decide +kernel, by decide +kernel⟩
def kvs_SHAPES : List (Str × Str) := [("tell", "n"), ("names", ""), ("point", "ns"), ("cut", "nsww"), ("stretch", "nssw"), ("turn", "n"), ("raise", "n"), ("lower", "n"), ("least", "n"), ("speed", "nw"), ("move", "nssssss"), ("same", "nn"), ("hull", "n"), ("box", "n"), ("part", "nn"), ("meet", "nnl"), ("join", "nn")]
set_option genInjectivity false
set_option genSizeOf false
/-- what the top leaves -/
structure Txt (K : Frag) (mg : Str → Option Value) where
  d_common_part : DefF K mg "common_part" s_common_part ["one", "other"]
  d_share : DefF K mg "share" s_share ["top", "bottom"]
  d_plus : DefF K mg "plus" s_plus ["one", "other"]
  d_minus : DefF K mg "minus" s_minus ["one", "other"]
  d_times : DefF K mg "times" s_times ["one", "other"]
  d_under : DefF K mg "under" s_under ["one", "other"]
  d_between : DefF K mg "between" s_between ["one", "other", "t"]
  d_on_way : DefF K mg "on_way" s_on_way ["one", "other", "t"]
  d_step : DefF K mg "step" s_step ["one", "other"]
  d_moved : DefF K mg "moved" s_moved ["place", "by", "many"]
  d_next_row : DefF K mg "next_row" s_next_row ["row", "t"]
  d_rows : DefF K mg "rows" s_rows ["curve", "t"]
  d_point : DefF K mg "point" s_point ["curve", "t"]
  d_ways : DefF K mg "ways" s_ways ["n"]
  d_sum_of : DefF K mg "sum_of" s_sum_of ["points", "shares"]
  d_polar : DefF K mg "polar" s_polar ["curve", "shares"]
  d_cut : DefF K mg "cut" s_cut ["curve", "t"]
  d_stretch : DefF K mg "stretch" s_stretch ["curve", "s", "t"]
  d_turned : DefF K mg "turned" s_turned ["curve"]
  d_whole_points : DefF K mg "whole_points" s_whole_points ["points"]
  d_goes_left : DefF K mg "goes_left" s_goes_left ["one", "other", "third"]
  d_chain : DefF K mg "chain" s_chain ["some"]
  d_hull_of_whole : DefF K mg "hull_of_whole" s_hull_of_whole ["some"]
  d_hull : DefF K mg "hull" s_hull ["points"]
  d_least_of : DefF K mg "least_of" s_least_of ["some"]
  d_greatest_of : DefF K mg "greatest_of" s_greatest_of ["some"]
  d_box : DefF K mg "box" s_box ["points"]
  d_speed : DefF K mg "speed" s_speed ["curve"]
  d_smoothness : DefF K mg "smoothness" s_smoothness ["one", "other", "most"]
  d_blend : DefF K mg "blend" s_blend ["one", "other", "here", "there"]
  d_map_point : DefF K mg "map_point" s_map_point ["by", "place"]
  d_mapped : DefF K mg "mapped" s_mapped ["curve", "by"]
  d_turn_of : DefF K mg "turn_of" s_turn_of ["one", "other"]
  d_along : DefF K mg "along" s_along ["one", "other"]
  d_steps_between : DefF K mg "steps_between" s_steps_between ["some", "others"]
  d_ahead_of : DefF K mg "ahead_of" s_ahead_of ["one"]
  d_ahead_of_two : DefF K mg "ahead_of_two" s_ahead_of_two ["one", "other"]
  d_ahead_of_all : DefF K mg "ahead_of_all" s_ahead_of_all ["corners"]
  d_parts_of_two : DefF K mg "parts_of_two" s_parts_of_two ["one", "other"]
  d_parts_of : DefF K mg "parts_of" s_parts_of ["corners"]
  d_line_by : DefF K mg "line_by" s_line_by ["way", "some", "others", "bottom"]
  d_common_by : DefF K mg "common_by" s_common_by ["parts", "steps", "many", "more"]
  d_parting : DefF K mg "parting" s_parting ["one", "other"]
  d_halved : DefF K mg "halved" s_halved ["curves"]
  d_stretches : DefF K mg "stretches" s_stretches ["curve", "level"]
  d_beneath : DefF K mg "beneath" s_beneath ["pairs"]
  d_meets : DefF K mg "meets" s_meets ["one", "other", "level"]
  d_powers : DefF K mg "powers" s_powers ["curve"]
  d_of_powers : DefF K mg "of_powers" s_of_powers ["some"]
  d_raised : DefF K mg "raised" s_raised ["curve"]
  d_lowered : DefF K mg "lowered" s_lowered ["curve"]
  d_least : DefF K mg "least" s_least ["curve"]
  d_same : DefF K mg "same" s_same ["one", "other"]
  d_show_share : DefF K mg "show_share" s_show_share ["one"]
  d_show_point : DefF K mg "show_point" s_show_point ["one"]
  d_show_curve : DefF K mg "show_curve" s_show_curve ["curve"]
  d_read_whole : DefF K mg "read_whole" s_read_whole ["text"]
  d_read_share : DefF K mg "read_share" s_read_share ["text"]
  d_read_point : DefF K mg "read_point" s_read_point ["text"]
  d_read_curve : DefF K mg "read_curve" s_read_curve ["text"]
  d_read_name : DefF K mg "read_name" s_read_name ["word"]
  d_read_level : DefF K mg "read_level" s_read_level ["word"]
  d_read_word : DefF K mg "read_word" s_read_word ["word", "shape"]
  d_read_row : DefF K mg "read_row" s_read_row ["row"]
  d__law_cell_at : DefF K mg "_law_cell_at" s__law_cell_at ["_law_script", "_law_k"]
  d__law_stream : DefF K mg "_law_stream" s__law_stream ["_law_cell", "_law_many"]
  d__law_share : DefF K mg "_law_share" s__law_share ["_law_top", "_law_bottom"]
  d__law_way : DefF K mg "_law_way" s__law_way ["_law_cell"]
  d__law_place : DefF K mg "_law_place" s__law_place ["_law_cell", "_law_way_here"]
  d__law_handed : DefF K mg "_law_handed" s__law_handed ["_law_places", "_law_bottom"]
  d__law_seats : DefF K mg "_law_seats" s__law_seats ["_law_cell", "_law_many", "_law_way_here"]
  d__law_names : DefF K mg "_law_names" s__law_names ["_law_cell", "_law_many"]
  d__law_share_text : DefF K mg "_law_share_text" s__law_share_text ["_law_one"]
  d__law_point_text : DefF K mg "_law_point_text" s__law_point_text ["_law_place_here"]
  d__law_curve_text : DefF K mg "_law_curve_text" s__law_curve_text ["_law_curve"]
  d__law_filled : DefF K mg "_law_filled" s__law_filled ["_law_text", "_law_a", "_law_b", "_law_odd"]
  d__law_no_rows : DefF K mg "_law_no_rows" s__law_no_rows ["_law_a", "_law_b"]
  d__law_no_words : DefF K mg "_law_no_words" s__law_no_words ["_law_a", "_law_b", "_law_odd"]
  d__law_no_names : DefF K mg "_law_no_names" s__law_no_names ["_law_a", "_law_b", "_law_odd"]
  d__law_strangers : DefF K mg "_law_strangers" s__law_strangers ["_law_a", "_law_odd"]
  d__law_case : DefF K mg "_law_case" s__law_case ["_law_cell", "_law_names_here", "_law_stranger"]
  d__law_refused : DefF K mg "_law_refused" s__law_refused ["_law_desk", "_law_row", "_law_kind"]
  d__law_state : DefF K mg "_law_state" s__law_state ["_law_desk", "_law_names_here"]
  d_law : LawF K mg s_law "_law_script"
  C_Sieve : Addr
  l_Sieve : ClF K mg "Sieve" C_Sieve
  n_Sieve_level : NoAttr K C_Sieve "level"
  n_Sieve_ones : NoAttr K C_Sieve "ones"
  n_Sieve_others : NoAttr K C_Sieve "others"
  n_Sieve_pairs : NoAttr K C_Sieve "pairs"
  n_Sieve_thrown : NoAttr K C_Sieve "thrown"
  d_Sieve___init__ : InF K C_Sieve "Sieve.__init__" s_Sieve___init__ ["self", "one", "other"]
  d_Sieve_look : MtF K C_Sieve "look" "Sieve.look" s_Sieve_look ["self", "pairs"]
  d_Sieve_go_down : MtF K C_Sieve "go_down" "Sieve.go_down" s_Sieve_go_down ["self"]
  C_Desk : Addr
  l_Desk : ClF K mg "Desk" C_Desk
  n_Desk_book : NoAttr K C_Desk "book"
  d_Desk___init__ : InF K C_Desk "Desk.__init__" s_Desk___init__ ["self"]
  d_Desk_say : MtF K C_Desk "say" "Desk.say" s_Desk_say ["self", "row"]
  d_Desk_put : MtF K C_Desk "put" "Desk.put" s_Desk_put ["self", "name", "curve"]
  d_Desk_compared : MtF K C_Desk "compared" "Desk.compared" s_Desk_compared ["self", "word", "one", "other", "last"]
  d_Desk_asked : MtF K C_Desk "asked" "Desk.asked" s_Desk_asked ["self", "word", "curve", "parts"]
  d_Desk_changed : MtF K C_Desk "changed" "Desk.changed" s_Desk_changed ["self", "word", "curve", "parts"]
  C_SeatError : Addr
  e_SeatError : ExcF K mg "SeatError" C_SeatError
  C_NoShare : Addr
  e_NoShare : ExcF K mg "NoShare" C_NoShare
  C_NoLower : Addr
  e_NoLower : ExcF K mg "NoLower" C_NoLower
  C_NoMap : Addr
  e_NoMap : ExcF K mg "NoMap" C_NoMap
  C_NoJoin : Addr
  e_NoJoin : ExcF K mg "NoJoin" C_NoJoin
  C_NoPlace : Addr
  e_NoPlace : ExcF K mg "NoPlace" C_NoPlace
  C_TooMany : Addr
  e_TooMany : ExcF K mg "TooMany" C_TooMany
  C_NoText : Addr
  e_NoText : ExcF K mg "NoText" C_NoText
  C_NoName : Addr
  e_NoName : ExcF K mg "NoName" C_NoName
  q_NoText : ExcC K C_NoText
  x_NoText_SeatError : PySem.W.exmOne K (.ref C_NoText) (.ref C_SeatError) = some true
  k_NoText_NoJoin : PySem.W.kitOne K (.ref C_NoText) (.ref C_NoJoin) = some false
  k_NoText_NoMap : PySem.W.kitOne K (.ref C_NoText) (.ref C_NoMap) = some false
  k_NoText_NoPlace : PySem.W.kitOne K (.ref C_NoText) (.ref C_NoPlace) = some false
  k_NoText_NoShare : PySem.W.kitOne K (.ref C_NoText) (.ref C_NoShare) = some false
  k_NoText_NoText : PySem.W.kitOne K (.ref C_NoText) (.ref C_NoText) = some true
  k_NoText_NoName : PySem.W.kitOne K (.ref C_NoText) (.ref C_NoName) = some false
  k_NoText_TooMany : PySem.W.kitOne K (.ref C_NoText) (.ref C_TooMany) = some false
  k_NoText_NoLower : PySem.W.kitOne K (.ref C_NoText) (.ref C_NoLower) = some false
  k_NoText_ValueError : PySem.W.kitOne K (.ref C_NoText) (.type "ValueError") = some true
  q_NoName : ExcC K C_NoName
  x_NoName_SeatError : PySem.W.exmOne K (.ref C_NoName) (.ref C_SeatError) = some true
  k_NoName_NoJoin : PySem.W.kitOne K (.ref C_NoName) (.ref C_NoJoin) = some false
  k_NoName_NoMap : PySem.W.kitOne K (.ref C_NoName) (.ref C_NoMap) = some false
  k_NoName_NoPlace : PySem.W.kitOne K (.ref C_NoName) (.ref C_NoPlace) = some false
  k_NoName_NoShare : PySem.W.kitOne K (.ref C_NoName) (.ref C_NoShare) = some false
  k_NoName_NoText : PySem.W.kitOne K (.ref C_NoName) (.ref C_NoText) = some false
  k_NoName_NoName : PySem.W.kitOne K (.ref C_NoName) (.ref C_NoName) = some true
  k_NoName_TooMany : PySem.W.kitOne K (.ref C_NoName) (.ref C_TooMany) = some false
  k_NoName_NoLower : PySem.W.kitOne K (.ref C_NoName) (.ref C_NoLower) = some false
  k_NoName_ValueError : PySem.W.kitOne K (.ref C_NoName) (.type "ValueError") = some true
  q_TooMany : ExcC K C_TooMany
  x_TooMany_SeatError : PySem.W.exmOne K (.ref C_TooMany) (.ref C_SeatError) = some true
  k_TooMany_NoJoin : PySem.W.kitOne K (.ref C_TooMany) (.ref C_NoJoin) = some false
  k_TooMany_NoMap : PySem.W.kitOne K (.ref C_TooMany) (.ref C_NoMap) = some false
  k_TooMany_NoPlace : PySem.W.kitOne K (.ref C_TooMany) (.ref C_NoPlace) = some false
  k_TooMany_NoShare : PySem.W.kitOne K (.ref C_TooMany) (.ref C_NoShare) = some false
  k_TooMany_NoText : PySem.W.kitOne K (.ref C_TooMany) (.ref C_NoText) = some false
  k_TooMany_NoName : PySem.W.kitOne K (.ref C_TooMany) (.ref C_NoName) = some false
  k_TooMany_TooMany : PySem.W.kitOne K (.ref C_TooMany) (.ref C_TooMany) = some true
  k_TooMany_NoLower : PySem.W.kitOne K (.ref C_TooMany) (.ref C_NoLower) = some false
  k_TooMany_ValueError : PySem.W.kitOne K (.ref C_TooMany) (.type "ValueError") = some true
  q_NoLower : ExcC K C_NoLower
  x_NoLower_SeatError : PySem.W.exmOne K (.ref C_NoLower) (.ref C_SeatError) = some true
  k_NoLower_NoJoin : PySem.W.kitOne K (.ref C_NoLower) (.ref C_NoJoin) = some false
  k_NoLower_NoMap : PySem.W.kitOne K (.ref C_NoLower) (.ref C_NoMap) = some false
  k_NoLower_NoPlace : PySem.W.kitOne K (.ref C_NoLower) (.ref C_NoPlace) = some false
  k_NoLower_NoShare : PySem.W.kitOne K (.ref C_NoLower) (.ref C_NoShare) = some false
  k_NoLower_NoText : PySem.W.kitOne K (.ref C_NoLower) (.ref C_NoText) = some false
  k_NoLower_NoName : PySem.W.kitOne K (.ref C_NoLower) (.ref C_NoName) = some false
  k_NoLower_TooMany : PySem.W.kitOne K (.ref C_NoLower) (.ref C_TooMany) = some false
  k_NoLower_NoLower : PySem.W.kitOne K (.ref C_NoLower) (.ref C_NoLower) = some true
  k_NoLower_ValueError : PySem.W.kitOne K (.ref C_NoLower) (.type "ValueError") = some true
  m_ValueError : mg "ValueError" = none
  m_abs : mg "abs" = none
  m_divmod : mg "divmod" = none
  m_enumerate : mg "enumerate" = none
  m_int : mg "int" = none
  m_isinstance : mg "isinstance" = none
  m_len : mg "len" = none
  m_list : mg "list" = none
  m_max : mg "max" = none
  m_min : mg "min" = none
  m_range : mg "range" = none
  m_reversed : mg "reversed" = none
  m_set : mg "set" = none
  m_sorted : mg "sorted" = none
  m_str : mg "str" = none
  m_sum : mg "sum" = none
  m_tuple : mg "tuple" = none
  m_zip : mg "zip" = none
  c_NOUGHT_curves : Addr
  g_NOUGHT_curves : mg "NOUGHT_curves" = some (.ref c_NOUGHT_curves)
  r_NOUGHT_curves : ∀ H, Rp K H (.ref c_NOUGHT_curves) (.tup [.int 0, .int 1])
  c_NOUGHT_partings : Addr
  g_NOUGHT_partings : mg "NOUGHT_partings" = some (.ref c_NOUGHT_partings)
  r_NOUGHT_partings : ∀ H, Rp K H (.ref c_NOUGHT_partings) (.tup [.int 0, .int 1])
  c_HALF : Addr
  g_HALF : mg "HALF" = some (.ref c_HALF)
  r_HALF : ∀ H, Rp K H (.ref c_HALF) (.tup [.int 1, .int 2])
  g_MOST_PAIRS : ∃ t, mg "MOST_PAIRS" = some (.int 256 t)
  g_MOST_SEATS : ∃ t, mg "MOST_SEATS" = some (.int 12 t)
  c_NOUGHT_raising : Addr
  g_NOUGHT_raising : mg "NOUGHT_raising" = some (.ref c_NOUGHT_raising)
  r_NOUGHT_raising : ∀ H, Rp K H (.ref c_NOUGHT_raising) (.tup [.tup [.int 0, .int 1], .tup [.int 0, .int 1]])
  g_FIGURES : ∃ t, mg "FIGURES" = some (.str "0123456789" t)
  g_MOST_FIGURES : ∃ t, mg "MOST_FIGURES" = some (.int 100 t)
  g_MOST_PARTS : ∃ t, mg "MOST_PARTS" = some (.int 12 t)
  g_LETTERS : ∃ t, mg "LETTERS" = some (.str "abcdefghijklmnopqrstuvwxyz" t)
  g_MOST_LETTERS : ∃ t, mg "MOST_LETTERS" = some (.int 12 t)
  g_MOST_SMOOTH : ∃ t, mg "MOST_SMOOTH" = some (.int 11 t)
  c_SHAPES : Addr
  g_SHAPES : mg "SHAPES" = some (.ref c_SHAPES)
/-- dicts of the top (their hashes know the world) -/
structure TxW {K : Frag} {mg : Str → Option Value} (w : World) (T : Txt K mg) : Prop where
  kd_SHAPES : KdS K w T.c_SHAPES kvs_SHAPES
end Lw
namespace Lw
open PySem PySem.Spec PyProof.Rows L2 C7
local macro_rules | `(tactic| walk_at "bt") => `(tactic| first
  | with_reducible assumption
  | exact Sz.num (by with_reducible assumption)
  | exact Sz.den (by with_reducible assumption)
  | (refine' bt_mul ?b1 ?b2; (case b1 => walk_at "bt"); (case b2 => walk_at "bt"))
  | (refine' bt_add ?b1 ?b2; (case b1 => walk_at "bt"); (case b2 => walk_at "bt"))
  | (refine' bt_sub ?b1 ?b2; (case b1 => walk_at "bt"); (case b2 => walk_at "bt"))
  | (refine' bt_neg ?b1; (case b1 => walk_at "bt"))
  | exact (by decide : (_ : Nat) < 2 ^ 64)
  | exact bt_small 64 (by omega) (by omega))
local macro_rules | `(tactic| walk_at "sz") => `(tactic| first
  | decide
  | omega
  | (refine' cpow ?b1 ?b2 ?b3; (case b1 => decide); (case b2 => decide); (case b3 => decide))
  | (refine' divw ?b0 ?b1 ?b2 ?b3; (case b0 => first | decide | omega); (case b1 => walk_at "bt"); (case b2 => decide); (case b3 => decide))
  | (refine' mulx ?b1 ?b2 ?b3; (case b1 => walk_at "bt"); (case b2 => walk_at "bt"); (case b3 => first | decide | omega)))
local macro_rules | `(tactic| walk_at "szr") => `(tactic| first
  | with_reducible assumption
  | with_reducible exact sz_zero
  | with_reducible exact SzP.l (by with_reducible assumption)
  | with_reducible exact SzP.r (by with_reducible assumption)
  | with_reducible exact sel_sz (by with_reducible assumption)
  | with_reducible exact sz_one
  | (with_reducible refine' sz_one_sub ?b1; (case b1 => walk_at "szr"))
  | (with_reducible refine' sz_mul ?b1 ?b2; (case b1 => walk_at "szr"); (case b2 => walk_at "szr"))
  | (with_reducible refine' sz_add ?b1 ?b2; (case b1 => walk_at "szr"); (case b2 => walk_at "szr"))
  | (with_reducible refine' sz_sub ?b1 ?b2; (case b1 => walk_at "szr"); (case b2 => walk_at "szr")))
local macro_rules | `(tactic| walk_at "il") => `(tactic| first
  | with_reducible assumption
  | with_reducible exact IsL.cl
  | with_reducible exact IsL.of aupd_same
  | (with_reducible refine' IsL.ext ?b1 (Ext.new ?b2); (case b2 => with_reducible assumption); (case b1 => walk_at "il"))
  | (with_reducible refine' IsL.ext ?b1 ?b2; (case b2 => with_reducible assumption); (case b1 => walk_at "il")))
local macro_rules | `(tactic| walk_at "ilx") => `(tactic| (refine' IsL.ext ?b1 ?b2; (case b2 => with_reducible assumption); (case b1 => walk_at "il")))
local macro_rules | `(tactic| walk_at "len") => `(tactic| first | decide | exact Nat.le_of_ble_eq_true rfl | omega)
local macro_rules | `(tactic| walk_at "ib") => `(tactic| first | rfl | (exact atN _ (by omega)) | (exact atZ (by omega) (by omega)))
local macro_rules | `(tactic| walk_at "fz") => `(tactic| first
  | with_reducible assumption
  | (with_reducible refine' fz_S ?b1; (case b1 => walk_at "szr"))
  | (with_reducible refine' fz_mul ?b1 ?b2; (case b1 => walk_at "fz"); (case b2 => walk_at "fz"))
  | (with_reducible refine' fz_add ?b1 ?b2 ?b3; (case b1 => walk_at "fz"); (case b2 => walk_at "fz"); (case b3 => decide)))
local macro_rules | `(tactic| walk_at "p30") => `(tactic| first | exact (by decide : (0 : Int) < 10 ^ (30 : Int).toNat) | exact divw (by decide : (0 : Int) < 10 ^ (30 : Int).toNat) (by decide : ((10 : Int) ^ (30 : Int).toNat).natAbs < 2 ^ 100) (by decide) (by decide))
local macro_rules | `(tactic| walk_at "om") => `(tactic| first | omega | decide | (simp only [List.length_map, List.length_range, List.length_append, List.length_cons, List.length_nil, List.length_reverse, List.length_replicate] at *; omega) | (simp; omega))
local macro_rules | `(tactic| walk_at "om4") => `(tactic| (refine ⟨?_, ?_, ?_, ?_⟩ <;> walk_at "om"))
local macro_rules | `(tactic| walk_at "lt") => `(tactic| first | (rw [List.length_map]; exact small1000 (by omega)) | exact small1000 (by walk_at "om"))
local macro_rules | `(tactic| walk_at "len") => `(tactic| first | decide | exact Nat.le_of_ble_eq_true rfl | omega | exact Nat.le_of_lt (small1000 (by walk_at "om")))
local macro_rules | `(tactic| walk_at "im") => `(tactic| first | with_reducible assumption | exact IsM.fz _ | exact IsM.ref aupd_same)
local macro_rules | `(tactic| walk_at "fact") => `(tactic| first | rfl | (simp; done) | (simp; omega))
section
variable {P : Program} {w : World} {K : Frag} {mg : Str → Option Value} {base : Heap}
theorem small_sz {n : Nat} (h : n < 2000000) : n < sizeLine := by rw [sizeLine_eq]; omega
theorem num_denT (r : Rat) : r = (r.num : Rat) / (((r.den : Int)) : Rat) := by
  have := rat_eq r
  rw [this]
  push_cast
  first | rfl | (rw [← this]; exact this)
theorem rdS_nil (q : Rat) : ¬ rdS [] q := fun h => by
  rcases h with ⟨_, h, _⟩ | ⟨a, b, e, _⟩
  · exact h.1 rfl
  · cases a <;> cases e
theorem rdP_one {l : List Nat} {p q : Pt} (h : rdP l p) (h' : rdP l q) : p = q := by
  obtain ⟨a, b, rfl, h1, h2, h3⟩ := h
  obtain ⟨a', b', e, g1, g2, g3⟩ := h'
  obtain ⟨rfl, rfl⟩ := first_uniq e h1 g1
  exact Prod.ext (rdS_one h2 g2) (rdS_one h3 g3)
/-- what a text of a curve is read to -/
def rdC (x : Str) (row : List Pt) : Prop := (Txt.split x " ").length ≤ 12 ∧ row.length = (Txt.split x " ").length ∧ ∀ i, i < row.length → rdP (TL.tl ((Txt.split x " ").getD i default)) (gp row i)
theorem spl_len (S : List Nat) : ∀ (l acc : List Nat) (k : Nat), ∀ p ∈ TL.spl S k acc l, p.length ≤ acc.length + l.length
  | [], acc, k, p, hp => by
    rw [TL.spl_nil] at hp
    rw [List.mem_singleton.mp hp]; simp
  | c :: r, acc, k + 1, p, hp => by
    have := spl_len S r acc k p hp
    rw [List.length_cons]; omega
  | c :: r, acc, 0, p, hp => by
    cases h : TL.pre S (c :: r) with
    | true =>
      rw [TL.spl_hit h] at hp
      rcases List.mem_cons.mp hp with rfl | hp
      · omega
      · have := spl_len S r [] (S.length - 1) p hp
        rw [List.length_cons]; simp at this; omega
    | false =>
      rw [TL.spl_miss h] at hp
      have := spl_len S r (acc ++ [c]) 0 p hp
      rw [List.length_append] at this
      rw [List.length_cons]; simp at this; omega
theorem split_part_len (x : Str) {p : Str} (h : p ∈ Txt.split x " ") : p.length ≤ x.length := by
  have h1 : TL.tl p ∈ (Txt.split x " ").map TL.tl := List.mem_map.mpr ⟨p, h, rfl⟩
  rw [TL.split_spl _ _ (by decide) (TL.kind_ok (all256 (l := [32]) rfl rfl))] at h1
  have := spl_len _ _ _ _ _ h1
  rw [TL.len_tl, TL.len_tl x]
  simpa using this
theorem rdC_cv {row : List Pt} (h0 : 0 < row.length) (h1 : row.length ≤ 12) (h : ∀ p ∈ row, FgP p) : rdC (cvT row) row := by
  unfold rdC
  rw [split_cv (by intro e; rw [e] at h0; cases h0), List.length_map]
  refine ⟨h1, rfl, fun i hi => ?_⟩
  have e : (row.map ptT).getD i default = ptT (gp row i) := by
    unfold gp
    rw [List.getD_eq_getElem?_getD, List.getElem?_map, List.getElem?_eq_getElem hi, List.getD_eq_getElem?_getD, List.getElem?_eq_getElem hi]; rfl
  rw [e, tl_ptT]
  exact rd_ptl (h _ (gp_mem hi))
theorem fg_sz {q : Rat} {m : Nat} (h : Sz m q) (hm : m ≤ 332) : Fg q := by
  have hp : (2 : Nat) ^ 332 < 10 ^ 100 := by decide
  have h1 := h.num
  have h2 := h.den
  have h3 : (2 : Nat) ^ m ≤ 2 ^ 332 := Nat.pow_le_pow_right (by decide) hm
  have h4 : ((q.den : Int)).natAbs = q.den := Int.natAbs_natCast _
  exact ⟨by omega, by omega⟩
def ct_read_whole (C : Addr) : Ct := fun ds A k e => ∃ (x : Str), ds = [.str x] ∧ x.length ≤ 1000000 ∧ (okW (TL.tl x) → k (.int (valW (TL.tl x))) A) ∧ (¬ okW (TL.tl x) → e (.ref C) A)
theorem ok_read_whole (T : Txt K mg) : Fn P w K mg base "read_whole" 1 (ct_read_whole T.C_NoText) := by
  refine fn_mk T.d_read_whole sc_read_whole (fun ds A k e h => ?_) fun f cdv A0 outer s H E hr hp htk ds A kk ee h => ?_
  · obtain ⟨x, rfl, _⟩ := h; rfl
  obtain ⟨x, rfl, hl, hk, he⟩ := h
  refine as_set (i := 1) sc_read_whole.nd rfl (.inl rfl) (AV.ae (av_var (i := 0) rfl (.inl rfl) rfl) ?_)
  have hz : x.length ≤ sizeLine := Nat.le_of_lt (small_sz (by omega))
  refine as_if1 (f := D.str) (fun fg : Str => TL.tl fg = figs (TL.tl x)) 1 (at_val (av_starts (av_var (i := 0) rfl (.inl rfl) rfl) av_str)) (fun hb => ?_) (fun hb => ?_) fun fg hfg => ?_
  · rw [starts_minus] at hb
    have hb := of_decide_eq_true hb
    refine as_set (i := 1) sc_read_whole.nd rfl (.inl rfl) (AV.ae (av_slS (lo' := some 1) (hi' := none) (av_var (i := 0) rfl (.inl rfl) rfl) hz av_int trivial) ?_)
    exact as_nil ⟨_, by rw [tl_cut1, figs, if_pos hb], rfl, rfl⟩
  · rw [starts_minus] at hb
    have hb := of_decide_eq_false hb
    exact as_nil ⟨_, by rw [figs, if_neg hb], rfl, rfl⟩
  refine AS.ro (ρ' := [some (.str x), some (.str fg), none]) ?_
  have hfl : fg.length = (figs (TL.tl x)).length := by rw [TL.len_tl, hfg]
  have hfx : (figs (TL.tl x)).length ≤ x.length := by
    rw [TL.len_tl, figs]
    split
    · rw [List.length_tail]; omega
    · omega
  have hfz : fg.length ≤ sizeLine := by rw [hfl]; exact Nat.le_trans hfx hz
  have hf0 : fg = "" ↔ figs (TL.tl x) = [] := by
    rw [← hfg]
    exact ⟨fun e => by rw [e]; rfl, fun e => TL.ext_tl (by rw [e]; rfl)⟩
  refine as_if (AW.at (aw_or (at_eqS (av_var (i := 1) rfl (.inl rfl) rfl) av_str) fun _ => (aw_or1 (at_gt (av_lenS rfl T.m_len (av_var (i := 1) rfl (.inl rfl) rfl) hfz) (av_globI rfl T.g_MOST_FIGURES))))) (fun hb => ?_) (fun hb => as_end ?_)
  · have hb : figs (TL.tl x) = [] ∨ 100 < (figs (TL.tl x)).length := by
      rw [Bool.or_eq_true, decide_eq_true_eq, decide_eq_true_eq, hf0, hfl] at hb
      exact hb.imp id fun h => by omega
    exact as_cons (a1_raiseF T.e_NoText rfl htk rfl (he fun o => hb.elim o.1 fun h => Nat.lt_irrefl _ (Nat.lt_of_lt_of_le h o.2.1)))
  have hb : figs (TL.tl x) ≠ [] ∧ (figs (TL.tl x)).length ≤ 100 := by
    rw [Bool.or_eq_false_iff, decide_eq_false_iff_not, decide_eq_false_iff_not, hf0, hfl] at hb
    exact ⟨hb.1, by omega⟩
  refine as_cons (a1_for hp rfl (ai_S (av_var (i := 1) rfl (.inl rfl) rfl) ⟨fun i ρ A' => ∃ (y : Option D), ρ = [some (.str x), some (.str fg), y] ∧ A = A' ∧ (∀ j, j < i → 48 ≤ (figs (TL.tl x)).getD j 0 ∧ (figs (TL.tl x)).getD j 0 ≤ 57), ⟨_, rfl, rfl, fun j hj => absurd hj (Nat.not_lt_zero _)⟩, fun i ρ A' hle hI => trivial, fun i ρ A' hi hI => ⟨_, _, (ag_name (i := 2) sc_read_whole.nd rfl (.inl rfl)), ?_⟩, fun ρ A' hI => ?_⟩))
  · skip
    obtain ⟨y, rfl, rfl, hd⟩ := hI
    have hcg : fg.cps.getD i 0 = (figs (TL.tl x)).getD i 0 := by rw [← hfg, Array.getD_eq_getD_getElem?, List.getD_eq_getElem?_getD, Array.getElem?_toList]
    have hin : ∀ c : Nat, c ∈ (("0123456789" : Str)).cps.toList ↔ 48 ≤ c ∧ c ≤ 57 := fun c => by
      show c ∈ [48, 49, 50, 51, 52, 53, 54, 55, 56, 57] ↔ _
      simp only [List.mem_cons, List.not_mem_nil, or_false]
      omega
    refine as_if (at_notInSg (av_var (i := 2) rfl (.inl rfl) rfl) (av_globS rfl T.g_FIGURES)) (fun hc9 => ?_) (fun hc9 => as_end ?_)
    · have hc9 : ¬ (48 ≤ (figs (TL.tl x)).getD i 0 ∧ (figs (TL.tl x)).getD i 0 ≤ 57) := by
        rw [Bool.not_eq_true', decide_eq_false_iff_not, hin, hcg] at hc9
        exact hc9
      have hil : i < (figs (TL.tl x)).length := by rw [← hfl]; exact hi
      exact as_cons (a1_raiseF T.e_NoText rfl htk rfl (he fun o => hc9 (o.2.2.1 _ (by rw [List.getD_eq_getElem?_getD, List.getElem?_eq_getElem hil]; exact List.getElem_mem hil))))
    have hc9 : 48 ≤ (figs (TL.tl x)).getD i 0 ∧ (figs (TL.tl x)).getD i 0 ≤ 57 := by
      rw [Bool.not_eq_false', decide_eq_true_eq, hin, hcg] at hc9
      exact hc9
    exact as_nil ⟨_, rfl, rfl, fun j hj => (Nat.lt_succ_iff_lt_or_eq.mp hj).elim (hd j) (fun e => by subst e; exact hc9)⟩
  obtain ⟨y, rfl, rfl, hd⟩ := hI
  have hdg : NumText.AllDigits (figs (TL.tl x)) := fun c hc => by
    obtain ⟨j, hj, e⟩ := List.getElem_of_mem hc
    have := hd j (by show j < fg.length; rw [hfl]; exact hj)
    rw [List.getD_eq_getElem?_getD, List.getElem?_eq_getElem hj, Option.getD_some, e] at this
    exact this
  obtain ⟨c0, r0, hcr⟩ : ∃ c0 r0, figs (TL.tl x) = c0 :: r0 := by
    cases hc : figs (TL.tl x) with
    | nil => exact absurd hc hb.1
    | cons c0 r0 => exact ⟨c0, r0, rfl⟩
  have hc0 : fg.cps[(0 : Int).toNat]? = some c0 := by
    show fg.cps[0]? = some c0
    rw [← Array.getElem?_toList]
    show (TL.tl fg)[0]? = some c0
    rw [hfg, hcr]; rfl
  have hz0 : ∀ c : Nat, ((⟨#[c]⟩ : Str) = "0") ↔ c = 48 := fun c => by
    constructor
    · intro e
      have := congrArg TL.tl e
      have h9 : [c] = [48] := this
      injection h9
    · intro e
      subst e; rfl
  have hx0 : x = "0" ↔ TL.tl x = [48] := ⟨fun e => by rw [e]; rfl, fun e => TL.ext_tl (by rw [e]; rfl)⟩
  refine as_if (AW.at (aw_and (at_eqS (av_ixS (av_var (i := 1) rfl (.inl rfl) rfl) av_int (by decide) (by decide) hc0) av_str) fun _ => (aw_and1 (at_neS (av_var (i := 0) rfl (.inl rfl) rfl) av_str)))) (fun h8 => ?_) (fun h8 => as_end ?_)
  · rw [Bool.and_eq_true, Bool.not_eq_true', decide_eq_true_eq, decide_eq_false_iff_not, hz0, hx0] at h8
    exact as_cons (a1_raiseF T.e_NoText rfl htk rfl (he fun o => h8.2 (o.2.2.2 (by rw [hcr, h8.1]; rfl))))
  have hok : okW (TL.tl x) := ⟨hb.1, hb.2, hdg, fun h => by
    rw [hcr] at h
    have h7 : c0 = 48 := Option.some.inj h
    by_cases h6 : TL.tl x = [48]
    · exact h6
    · rw [(hz0 c0).mpr h7] at h8
      have h5 : x ≠ "0" := fun e => h6 (hx0.mp e)
      simp [h5] at h8⟩
  refine as_retv (av_intS rfl T.m_int (av_var (i := 0) rfl (.inl rfl) rfl) (int_ok hok) (by rw [TL.len_tl]; have := okW_len hok; omega)) (hk hok)
/-- curves each of which joins the next one -/
def Jnd (cs : List (List Pt)) : Prop := ∀ j, j + 1 < cs.length → gp (cs.getD j []) ((cs.getD j []).length - 1) = gp (cs.getD (j + 1) []) 0
theorem getD_ll {α : Type} (d : α) {cs : List α} {j : Nat} (h : j < cs.length) : cs.getD j d ∈ cs := by
  rw [List.getD_eq_getElem?_getD, List.getElem?_eq_getElem h]; exact List.getElem_mem h
structure GoodP (cs : List (List Pt)) : Prop where
  l0 : 0 < cs.length
  l1 : cs.length ≤ 12
  jn : Jnd cs
def ct_common_part : Ct := fun ds A k _ => ∃ a b : Int, ds = [.int a, .int b] ∧ 0 ≤ a ∧ 0 ≤ b ∧ b.natAbs < 2 ^ 9000 ∧ k (.int (Nat.gcd a.natAbs b.natAbs : Nat)) A
theorem ok_common_part (T : Txt K mg) : Fn P w K mg base "common_part" 1 ct_common_part := by
  refine fn_mk T.d_common_part sc_common_part (fun ds A k e h => ?_) fun f cdv A0 outer s H E hr hp htk ds A kk ee h => ?_
  · obtain ⟨a, b, rfl, _⟩ := h; rfl
  obtain ⟨a, b, rfl, ha, hb, hz, hk⟩ := h
  refine as_cons (a1_while hp (fun ρ A' => A' = A ∧ ∃ x y y2 y3, ρ = [some (.int x), some (.int y), y2, y3] ∧ 0 ≤ x ∧ 0 ≤ y ∧ y.natAbs < 2 ^ 9000 ∧ Nat.gcd x.natAbs y.natAbs = Nat.gcd a.natAbs b.natAbs)
    (fun ρ _ => match ρ with | [_, some (.int y), _, _] => y.natAbs | _ => 0) ⟨rfl, a, b, none, none, rfl, ha, hb, hz, rfl⟩ fun ρ A' hI => ?_)
  obtain ⟨rfl, x, y, y2, y3, rfl, hx, hy, hyz, hg⟩ := hI
  refine AT.aet (at_gt (av_var (i := 1) rfl (.inl rfl) rfl) av_int) ⟨fun hb => ?_, fun hb => ?_⟩
  · have h0 : 0 < y := of_decide_eq_true hb
    refine as_cons (a1_asg (AV.ae (av_divmod rfl T.m_divmod (avs_cons (av_var (i := 0) rfl (.inl rfl) rfl) (avs_cons (av_var (i := 1) rfl (.inl rfl) rfl) avs_nil)) (divp h0 hyz)) ⟨_, (ag_tup rfl (ags_cons (ag_name (i := 2) sc_common_part.nd rfl (.inl rfl)) (ags_cons (ag_name (i := 3) sc_common_part.nd rfl (.inl rfl)) ags_nil))), ?_⟩))
    refine as_set (i := 0) sc_common_part.nd rfl (.inl rfl) (AV.ae (av_var (i := 1) rfl (.inl rfl) rfl) ?_)
    refine as_set (i := 1) sc_common_part.nd rfl (.inl rfl) (AV.ae (av_var (i := 3) rfl (.inl rfl) rfl) ?_)
    have h1 := Int.emod_nonneg x (show y ≠ 0 by omega)
    have h2 := Int.emod_lt_of_pos x h0
    refine as_nil ⟨⟨rfl, y, x % y, _, _, rfl, hy, h1, by omega, (gcd_step hx h0).trans hg⟩, ?_⟩
    show (x % y).natAbs < y.natAbs
    omega
  · have h0 : y = 0 := by
      have : ¬ 0 < y := of_decide_eq_false hb
      omega
    subst h0
    refine as_retv (av_var (i := 0) rfl (.inl rfl) rfl) ?_
    rw [← hg, gcd_zero hx] at hk
    exact hk
def ct_share (C : Addr) : Ct := fun ds A k e => ∃ t b : Int, ds = [.int t, .int b] ∧ (b = 0 → e (.ref C) A) ∧ (b ≠ 0 → b.natAbs < 2 ^ 9000 ∧ k (sh ((t : Rat) / (b : Rat))) A)
theorem ok_share (T : Txt K mg) : Fn P w K mg base "share" 2 (ct_share T.C_NoShare) := by
  refine fn_mk T.d_share sc_share (fun ds A k e h => ?_) fun f cdv A0 outer s H E hr hp htk ds A kk ee h => ?_
  · obtain ⟨a, b, rfl, _⟩ := h; rfl
  obtain ⟨t, b, rfl, h0, hk⟩ := h
  refine as_if (at_eq (av_var (i := 1) rfl (.inl rfl) rfl) av_int) (fun hb => ?_) (fun hb => ?_)
  · -- raise NoShare('nothing is shared by nought')
    exact as_cons (a1_raiseF T.e_NoShare rfl htk rfl (h0 (of_decide_eq_true hb)))
  refine as_end ?_
  obtain ⟨hz, hk⟩ := hk (of_decide_eq_false hb)
  have hb0 : b ≠ 0 := of_decide_eq_false hb
  have key : ∀ t' b' : Int, 0 < b' → b'.natAbs < 2 ^ 9000 → kk (sh ((t' : Rat) / (b' : Rat))) A → AS (cxOf (L2N.CX P w) P w K mg base ["top", "bottom", "part"] "share" (defScope s_share) f cdv A0 outer s H E) (fun cls d _ H => E cls d H) ((defBody s_share).drop 2) [some (.int t'), some (.int b'), none] A { nx := fun _ A' => kk .non A', rt := kk, xc := fun c _ A' => ee c A' } := by
    intro t' b' hb' hz' hk'
    have hg : 0 < Nat.gcd t'.natAbs b'.natAbs := Nat.gcd_pos_of_pos_right _ (by omega)
    have hle : Nat.gcd t'.natAbs b'.natAbs ≤ b'.natAbs := Nat.le_of_dvd (by omega) (Nat.gcd_dvd_right _ _)
    have habs : (if t' < 0 then -t' else t').natAbs = t'.natAbs := by split <;> omega
    refine as_set (i := 2) sc_share.nd rfl (.inl rfl) (AV.ae (av_call (d := .int (Nat.gcd t'.natAbs b'.natAbs : Nat)) (ok_common_part T) (hr.mono (by decide)) rfl (avs_cons (av_abs rfl T.m_abs (av_var (i := 0) rfl (.inl rfl) rfl)) (avs_cons (av_var (i := 1) rfl (.inl rfl) rfl) avs_nil)) ⟨_, _, rfl, by split <;> omega, by omega, hz', by rw [habs], Ext.refl _⟩) ?_)
    have hd : ∀ i : Int, CDivW i (Nat.gcd t'.natAbs b'.natAbs : Nat) := fun i => divw (b := 9000) (by omega) (by omega) (by decide) (by decide)
    refine as_retv (av_tup (avs_cons (av_div (av_var (i := 0) rfl (.inl rfl) rfl) (av_var (i := 2) rfl (.inl rfl) rfl) (hd _)) (avs_cons (av_div (av_var (i := 1) rfl (.inl rfl) rfl) (av_var (i := 2) rfl (.inl rfl) rfl) (hd _)) avs_nil))) ?_
    rw [share_eq hb']
    exact hk'
  refine as_if (at_lt (av_var (i := 1) rfl (.inl rfl) rfl) av_int) (fun hb => ?_) (fun hb => ?_)
  · have hneg : b < 0 := of_decide_eq_true hb
    refine as_set (i := 0) sc_share.nd rfl (.inl rfl) (AV.ae (av_sub av_int (av_var (i := 0) rfl (.inl rfl) rfl)) ?_)
    refine as_set (i := 1) sc_share.nd rfl (.inl rfl) (AV.ae (av_sub av_int (av_var (i := 1) rfl (.inl rfl) rfl)) ?_)
    refine as_end (key (0 - t) (0 - b) (by omega) (by omega) ?_)
    rw [neg_div_neg]
    exact hk
  · have : ¬ b < 0 := of_decide_eq_false hb
    exact as_end (key t b (by omega) hz hk)
def ct_read_share (C : Addr) : Ct := fun ds A k e => ∃ (x : Str), ds = [.str x] ∧ x.length ≤ 1000000 ∧ (∀ q, rdS (TL.tl x) q → k (sh q) A) ∧ ((∀ q, ¬ rdS (TL.tl x) q) → e (.ref C) A)
theorem ok_read_share (T : Txt K mg) : Fn P w K mg base "read_share" 3 (ct_read_share T.C_NoText) := by
  refine fn_mk T.d_read_share sc_read_share (fun ds A k e h => ?_) fun f cdv A0 outer s H E hr hp htk ds A kk ee h => ?_
  · obtain ⟨x, rfl, _⟩ := h; rfl
  obtain ⟨x, rfl, hl, hk, he⟩ := h
  have hz : x.length ≤ sizeLine := Nat.le_of_lt (small_sz (by omega))
  refine as_if (bb := false) (AT.is (at_not (at_val (av_isi rfl T.m_isinstance (avs_c (av_var (i := 0) rfl (.inl rfl) rfl) (avs_c (av_ty rfl T.m_str bo_str) avs_nil)) (.str _) kt_str_str))) (by rfl)) (fun hb => nomatch hb) (fun _ => as_end ?_)
  by_cases h47 : 47 ∈ TL.tl x
  · skip
    obtain ⟨la, lb, e47, n47⟩ := first_sign 47 _ h47
    obtain ⟨a, ha⟩ : ∃ a : Str, TL.tl a = la := ⟨⟨la.toArray⟩, rfl⟩
    obtain ⟨b, hb⟩ : ∃ b : Str, TL.tl b = lb := ⟨⟨lb.toArray⟩, rfl⟩
    subst ha hb
    have ex : x = a ++ "/" ++ b := TL.ext_tl (by rw [e47, TL.tl_append, TL.tl_append, List.append_assoc]; rfl)
    have hlx : x.length = a.length + 1 + b.length := by rw [TL.len_tl, e47, List.length_append, List.length_cons, ← TL.len_tl, ← TL.len_tl]; omega
    refine as_cons (a1_asg (AV.ae (AV.is (av_parts (av_var (i := 0) rfl (.inl rfl) rfl) av_str (by decide) hz) (show _ = D.tup [.str a, .str "/", .str b] by rw [ex, TL.partition_app (y := "/") (s := 47) (S := []) rfl n47])) ⟨_, (ag_tup rfl (ags_cons (ag_name (i := 1) sc_read_share.nd rfl (.inl rfl)) (ags_cons (ag_name (i := 2) sc_read_share.nd rfl (.inl rfl)) (ags_cons (ag_name (i := 3) sc_read_share.nd rfl (.inl rfl)) ags_nil)))), ?_⟩))
    refine AS.ro (ρ' := [some (.str x), some (.str a), some (.str "/"), some (.str b), none]) ?_
    refine as_if (bb := false) (AT.is (at_eqS (av_var (i := 2) rfl (.inl rfl) rfl) av_str) (by rfl)) (fun hb => nomatch hb) (fun _ => as_end ?_)
    refine as_cons (a1_setx (i := 4) sc_read_share.nd rfl (.inl rfl) (aex_tup (aesx_cons (aex_call (ok_read_whole T) htk (hr.mono (by decide)) rfl (AVs.aes (avs_c (av_var (i := 1) rfl (.inl rfl) rfl) avs_nil) ⟨a, rfl, by omega, fun ok1 => aesx_cons (aex_call (ok_read_whole T) htk (hr.mono (by decide)) rfl (AVs.aes (avs_c (av_var (i := 3) rfl (.inl rfl) rfl) avs_nil) ⟨b, rfl, by omega, fun ok2 => aesx_nil ⟨Nat.le_of_ble_eq_true rfl, ?_⟩, fun no => he fun q h => h.elim (fun h => h.1 h47) fun ⟨a2, b2, e2, n2, o1, o2, _⟩ => by rw [e47] at e2; obtain ⟨rfl, rfl⟩ := first_uniq e2 n47 n2; exact no o2⟩)), fun no => he fun q h => h.elim (fun h => h.1 h47) fun ⟨a2, b2, e2, n2, o1, o2, _⟩ => by rw [e47] at e2; obtain ⟨rfl, rfl⟩ := first_uniq e2 n47 n2; exact no o1⟩)))))
    refine AS.ro (ρ' := [some (.str x), some (.str a), some (.str "/"), some (.str b), some (.tup [.int (valW (TL.tl a)), .int (valW (TL.tl b))])]) ?_
    obtain ⟨q, hq⟩ : ∃ q : Rat, q = (valW (TL.tl a) : Rat) / (valW (TL.tl b) : Rat) := ⟨_, rfl⟩
    by_cases hb2 : valW (TL.tl b) < 2
    · refine as_if (bb := true) (AT.is (AW.at (aw_or (b1 := true) (b2 := true) (AT.is (at_lt (av_ixT (av_var (i := 4) rfl (.inl rfl) rfl) av_int rfl) av_int) (by simp [hb2])) fun h => nomatch h)) (by rfl)) (fun _ => ?_) (fun h => nomatch h)
      exact as_cons (a1_raiseF T.e_NoText rfl htk rfl (he fun q h => h.elim (fun h => h.1 h47) fun ⟨a2, b2, e2, n2, o1, o2, o3, _⟩ => by rw [e47] at e2; obtain ⟨rfl, rfl⟩ := first_uniq e2 n47 n2; omega))
    have hb0 : valW (TL.tl b) ≠ 0 := by omega
    refine as_if (AW.at (aw_or (at_lt (av_ixT (av_var (i := 4) rfl (.inl rfl) rfl) av_int rfl) av_int) fun _ => (aw_or1 (at_neE (eT eI eI (dn_eI.up (by decide)) (dn_eI.up (by decide))) (x := (q.num, (q.den : Int))) (y := (valW (TL.tl a), valW (TL.tl b))) hr (AV.is (AE.av (ae_call (ok_share T) (hr.mono (by decide)) rfl (AVs.aes (avs_c (av_ixT (av_var (i := 4) rfl (.inl rfl) rfl) av_int rfl) (avs_c (av_ixT (av_var (i := 4) rfl (.inl rfl) rfl) av_int rfl) avs_nil)) ⟨_, _, rfl, fun h => absurd h hb0, fun _ => ⟨bt_le (valW_bd ok2) (by decide), ⟨rfl, Ext.refl _⟩⟩⟩))) (show _ = D.tup [.int q.num, .int (q.den : Int)] by rw [hq]; rfl)) (av_var (i := 4) rfl (.inl rfl) rfl))))) (fun h8 => ?_) (fun h8 => as_end ?_)
    · rw [decide_eq_false hb2, Bool.false_or, Bool.not_eq_true', decide_eq_false_iff_not] at h8
      refine as_cons (a1_raiseF T.e_NoText rfl htk rfl (he fun r h => h.elim (fun h => h.1 h47) fun ⟨a2, b2, e2, n2, o1, o2, o3, o4, o5⟩ => ?_))
      rw [e47] at e2
      obtain ⟨rfl, rfl⟩ := first_uniq e2 n47 n2
      have er : r = q := by rw [hq, ← o4, ← o5]; exact num_denT r
      exact h8 (by rw [← er, o4, o5])
    rw [decide_eq_false hb2, Bool.false_or, Bool.not_eq_false', decide_eq_true_eq] at h8
    injection h8 with h8a h8b
    have hkq := hk q (.inr ⟨_, _, e47, n47, ok1, ok2, by omega, h8a, h8b⟩)
    refine as_retv (AV.is (av_var (i := 4) rfl (.inl rfl) rfl) (show _ = sh q by show _ = D.tup [.int q.num, .int (q.den : Int)]; rw [h8a, h8b])) hkq
  refine as_cons (a1_asg (AV.ae (AV.is (av_parts (av_var (i := 0) rfl (.inl rfl) rfl) av_str (by decide) hz) (show _ = D.tup [.str x, .str "", .str ""] by rw [TL.partition_none (y := "/") (s := 47) (S := []) rfl h47]; rfl)) ⟨_, (ag_tup rfl (ags_cons (ag_name (i := 1) sc_read_share.nd rfl (.inl rfl)) (ags_cons (ag_name (i := 2) sc_read_share.nd rfl (.inl rfl)) (ags_cons (ag_name (i := 3) sc_read_share.nd rfl (.inl rfl)) ags_nil)))), ?_⟩))
  refine AS.ro (ρ' := [some (.str x), some (.str x), some (.str ""), some (.str ""), none]) ?_
  refine as_if (bb := true) (AT.is (at_eqS (av_var (i := 2) rfl (.inl rfl) rfl) av_str) (by rfl)) (fun _ => ?_) (fun hb => nomatch hb)
  refine as_cons (a1_retx (aex_tup (aesx_cons (aex_call (ok_read_whole T) htk (hr.mono (by decide)) rfl (AVs.aes (avs_c (av_var (i := 1) rfl (.inl rfl) rfl) avs_nil) ⟨x, rfl, by omega, fun ok1 => AEs.aesx (AVs.aes (avs_c av_int avs_nil) ⟨Nat.le_of_ble_eq_true rfl, ?_⟩), fun no => he fun q h => h.elim (fun h => no h.2.1) fun ⟨a2, b2, e2, _⟩ => h47 (by rw [e2]; exact List.mem_append_right _ (List.mem_cons_self ..))⟩)))))
  have hkq := hk ((valW (TL.tl x) : Int) : Rat) (.inl ⟨h47, ok1, rfl, rfl⟩)
  exact hkq
def ct_read_point (C : Addr) : Ct := fun ds A k e => ∃ (x : Str), ds = [.str x] ∧ x.length ≤ 1000000 ∧ (∀ p, rdP (TL.tl x) p → k (pt p) A) ∧ ((∀ p, ¬ rdP (TL.tl x) p) → e (.ref C) A)
theorem ok_read_point (T : Txt K mg) : Fn P w K mg base "read_point" 4 (ct_read_point T.C_NoText) := by
  refine fn_mk T.d_read_point sc_read_point (fun ds A k e h => ?_) fun f cdv A0 outer s H E hr hp htk ds A kk ee h => ?_
  · obtain ⟨x, rfl, _⟩ := h; rfl
  obtain ⟨x, rfl, hl, hk, he⟩ := h
  have hz : x.length ≤ sizeLine := Nat.le_of_lt (small_sz (by omega))
  refine as_if (bb := false) (AT.is (at_not (at_val (av_isi rfl T.m_isinstance (avs_c (av_var (i := 0) rfl (.inl rfl) rfl) (avs_c (av_ty rfl T.m_str bo_str) avs_nil)) (.str _) kt_str_str))) (by rfl)) (fun hb => nomatch hb) (fun _ => as_end ?_)
  by_cases h44 : 44 ∈ TL.tl x
  · skip
    obtain ⟨la, lb, e44, n44⟩ := first_sign 44 _ h44
    obtain ⟨a, ha⟩ : ∃ a : Str, TL.tl a = la := ⟨⟨la.toArray⟩, rfl⟩
    obtain ⟨b, hb⟩ : ∃ b : Str, TL.tl b = lb := ⟨⟨lb.toArray⟩, rfl⟩
    subst ha hb
    have ex : x = a ++ "," ++ b := TL.ext_tl (by rw [e44, TL.tl_append, TL.tl_append, List.append_assoc]; rfl)
    have hlx : x.length = a.length + 1 + b.length := by rw [TL.len_tl, e44, List.length_append, List.length_cons, ← TL.len_tl, ← TL.len_tl]; omega
    refine as_cons (a1_asg (AV.ae (AV.is (av_parts (av_var (i := 0) rfl (.inl rfl) rfl) av_str (by decide) hz) (show _ = D.tup [.str a, .str ",", .str b] by rw [ex, TL.partition_app (y := ",") (s := 44) (S := []) rfl n44])) ⟨_, (ag_tup rfl (ags_cons (ag_name (i := 1) sc_read_point.nd rfl (.inl rfl)) (ags_cons (ag_name (i := 2) sc_read_point.nd rfl (.inl rfl)) (ags_cons (ag_name (i := 3) sc_read_point.nd rfl (.inl rfl)) ags_nil)))), ?_⟩))
    refine AS.ro (ρ' := [some (.str x), some (.str a), some (.str ","), some (.str b)]) ?_
    refine as_cons (a1_retx (aex_tup (aesx_cons (aex_call (ok_read_share T) htk (hr.mono (by decide)) rfl (AVs.aes (avs_c (av_var (i := 1) rfl (.inl rfl) rfl) avs_nil) ⟨a, rfl, by omega, fun q1 ok1 => aesx_cons (aex_call (ok_read_share T) htk (hr.mono (by decide)) rfl (AVs.aes (avs_c (av_var (i := 3) rfl (.inl rfl) rfl) avs_nil) ⟨b, rfl, by omega, fun q2 ok2 => aesx_nil ⟨Nat.le_of_ble_eq_true rfl, hk (q1, q2) ⟨_, _, e44, n44, ok1, ok2⟩⟩, fun no => he fun p h => by obtain ⟨a2, b2, e2, n2, o1, o2⟩ := h; rw [e44] at e2; obtain ⟨rfl, rfl⟩ := first_uniq e2 n44 n2; exact no _ o2⟩)), fun no => he fun p h => by obtain ⟨a2, b2, e2, n2, o1, o2⟩ := h; rw [e44] at e2; obtain ⟨rfl, rfl⟩ := first_uniq e2 n44 n2; exact no _ o1⟩)))))
  refine as_cons (a1_asg (AV.ae (AV.is (av_parts (av_var (i := 0) rfl (.inl rfl) rfl) av_str (by decide) hz) (show _ = D.tup [.str x, .str "", .str ""] by rw [TL.partition_none (y := ",") (s := 44) (S := []) rfl h44]; rfl)) ⟨_, (ag_tup rfl (ags_cons (ag_name (i := 1) sc_read_point.nd rfl (.inl rfl)) (ags_cons (ag_name (i := 2) sc_read_point.nd rfl (.inl rfl)) (ags_cons (ag_name (i := 3) sc_read_point.nd rfl (.inl rfl)) ags_nil)))), ?_⟩))
  refine AS.ro (ρ' := [some (.str x), some (.str x), some (.str ""), some (.str "")]) ?_
  have hno : ∀ p, ¬ rdP (TL.tl x) p := fun p ⟨a2, b2, e2, _⟩ => h44 (by rw [e2]; exact List.mem_append_right _ (List.mem_cons_self ..))
  have hl0 : (("" : Str)).length ≤ 1000000 := by decide
  refine as_cons (a1_retx (aex_tup (aesx_cons (aex_call (ok_read_share T) htk (hr.mono (by decide)) rfl (AVs.aes (avs_c (av_var (i := 1) rfl (.inl rfl) rfl) avs_nil) ⟨x, rfl, by omega, fun q1 ok1 => aesx_cons (aex_call (ok_read_share T) htk (hr.mono (by decide)) rfl (AVs.aes (avs_c (av_var (i := 3) rfl (.inl rfl) rfl) avs_nil) ⟨"", rfl, hl0, fun q2 ok2 => absurd ok2 (rdS_nil q2), fun _ => he hno⟩)), fun _ => he hno⟩)))))
/-- a desk at p with its book at b -/
def bookA (bk : List (Str × List Pt)) : List (Str × D) := bk.map fun q => (q.1, fzs pt q.2)
structure IsDesk (C : Addr) (A : AH) (p b : Addr) (bk : List (Str × List Pt)) : Prop where
  at_ : ∃ y, A p = some (.ins C y [("book", .ref b)])
  bk : A b = some (dkS (bookA bk))
theorem IsDesk.ne {C : Addr} {A : AH} {p b : Addr} {bk : List (Str × List Pt)} (h : IsDesk C A p b bk) : p ≠ b := fun e => by
  obtain ⟨y, h1⟩ := h.at_
  rw [e, h.bk] at h1
  cases h1
def ct_Desk___init__ (C : Addr) : Ct := fun ds A k _ => ∃ (x y : Addr), ds = [.ref x] ∧ A x = some (.ins C y []) ∧ ∀ b, A b = none → k .non (aupd (aupd A b (dkS [])) x (.ins C y [("book", .ref b)]))
theorem ok_Desk___init__ (T : Txt K mg) : Ini P w K mg base T.C_Desk 1 (ct_Desk___init__ T.C_Desk) := by
  refine in_mk T.d_Desk___init__ sc_Desk___init__ (fun ds A k e h => ?_) fun f cdv A0 outer s H E hr hp htk ds A kk ee h => ?_
  · obtain ⟨x, y, rfl, _⟩ := h; rfl
  obtain ⟨x, y, rfl, hx, hk⟩ := h
  refine as_cons (a1_fldE T.l_Desk.c T.n_Desk_book (ae_dictS fun b hb => ⟨av_var (i := 0) rfl (.inl rfl) rfl, [], by rw [aupd_ne (fun e => by rw [e, hb] at hx; cases hx)]; exact hx, by decide, ?_⟩))
  exact as_nil (hk b hb)
def ct_Desk_put (C : Addr) : Ct := fun ds A k _ => ∃ (p b : Addr) (bk : List (Str × List Pt)) (n : Str) (row : List Pt), ds = [.ref p, .str n, fzs pt row] ∧ IsDesk C A p b bk ∧ bk.length ≤ 1000 ∧ k (.str "ok") (aupd A b (dkS (putS (bookA bk) n (fzs pt row))))
theorem ok_Desk_put (T : Txt K mg) : Mt P w K mg base T.C_Desk "put" 1 (ct_Desk_put T.C_Desk) := by
  refine mt_mk T.d_Desk_put sc_Desk_put (fun ds A k e h => ?_) fun f cdv A0 outer s H E hr hp htk ds A kk ee h => ?_
  · obtain ⟨p, b, bk, n, row, rfl, _⟩ := h; rfl
  obtain ⟨p, b, bk, n, row, rfl, hD, hl, hk⟩ := h
  obtain ⟨y, h1⟩ := hD.at_
  refine as_cons (a1_setS hr (av_var (i := 2) rfl (.inl rfl) rfl) (av_fld T.l_Desk.c T.n_Desk_book (av_var (i := 0) rfl (.inl rfl) rfl) h1 rfl) (av_var (i := 1) rfl (.inl rfl) rfl) hD.bk (small1000 (by unfold bookA; rw [List.length_map]; omega)) ?_)
  exact as_retv av_str hk
/-- what a name is -/
def NameL (l : List Nat) : Prop := 1 ≤ l.length ∧ l.length ≤ 12 ∧ ∀ c ∈ l, 97 ≤ c ∧ c ≤ 122
theorem small_sz2 {n : Nat} (h : n < 2000000) : n < sizeLine := by rw [sizeLine_eq]; omega
def ct_read_name (C : Addr) : Ct := fun ds A k e => ∃ (x : Str), ds = [.str x] ∧ x.length ≤ 1000000 ∧ (NameL (TL.tl x) → k (.str x) A) ∧ (¬ NameL (TL.tl x) → e (.ref C) A)
theorem ok_read_name (T : Txt K mg) : Fn P w K mg base "read_name" 1 (ct_read_name T.C_NoText) := by
  refine fn_mk T.d_read_name sc_read_name (fun ds A k e h => ?_) fun f cdv A0 outer s H E hr hp htk ds A kk ee h => ?_
  · obtain ⟨x, rfl, _⟩ := h; rfl
  obtain ⟨x, rfl, hl, hk, he⟩ := h
  have hlx : x.length = (TL.tl x).length := TL.len_tl x
  refine as_if (at_not (at_lele av_int (av_lenS rfl T.m_len (av_var (i := 0) rfl (.inl rfl) rfl) (Nat.le_of_lt (small_sz2 (by omega)))) (av_globI rfl T.g_MOST_LETTERS))) (fun hb => ?_) (fun hb => as_end ?_)
  · have hb : ¬ (1 ≤ (x.length : Int) ∧ (x.length : Int) ≤ 12) := by intro h; simp at hb; omega
    exact as_cons (a1_raiseF T.e_NoText rfl htk rfl (he fun o => hb ⟨by have := o.1; omega, by have := o.2.1; omega⟩))
  have hb : 1 ≤ (x.length : Int) ∧ (x.length : Int) ≤ 12 := by simp at hb; omega
  refine as_cons (a1_for hp rfl (ai_S (av_var (i := 0) rfl (.inl rfl) rfl) ⟨fun i ρ A' => ∃ (y : Option D), ρ = [some (.str x), y] ∧ A = A' ∧ (∀ j, j < i → 97 ≤ (TL.tl x).getD j 0 ∧ (TL.tl x).getD j 0 ≤ 122), ⟨_, rfl, rfl, fun j hj => absurd hj (Nat.not_lt_zero _)⟩, fun i ρ A' hle hI => trivial, fun i ρ A' hi hI => ⟨_, _, (ag_name (i := 1) sc_read_name.nd rfl (.inl rfl)), ?_⟩, fun ρ A' hI => ?_⟩))
  · skip
    obtain ⟨y, rfl, rfl, hd⟩ := hI
    have hcg : x.cps.getD i 0 = (TL.tl x).getD i 0 := by rw [Array.getD_eq_getD_getElem?, List.getD_eq_getElem?_getD, Array.getElem?_toList]
    have hin : ∀ c : Nat, c ∈ (("abcdefghijklmnopqrstuvwxyz" : Str)).cps.toList ↔ 97 ≤ c ∧ c ≤ 122 := fun c => by
      rw [show (("abcdefghijklmnopqrstuvwxyz" : Str)).cps.toList = List.range' 97 26 from rfl, List.mem_range'_1]
      omega
    refine as_if (at_notInSg (av_var (i := 1) rfl (.inl rfl) rfl) (av_globS rfl T.g_LETTERS)) (fun hc9 => ?_) (fun hc9 => as_end ?_)
    · have hc9 : ¬ (97 ≤ (TL.tl x).getD i 0 ∧ (TL.tl x).getD i 0 ≤ 122) := by
        rw [Bool.not_eq_true', decide_eq_false_iff_not, hin, hcg] at hc9
        exact hc9
      have hil : i < (TL.tl x).length := by rw [← hlx]; exact hi
      exact as_cons (a1_raiseF T.e_NoText rfl htk rfl (he fun o => hc9 (o.2.2 _ (by rw [List.getD_eq_getElem?_getD, List.getElem?_eq_getElem hil]; exact List.getElem_mem hil))))
    have hc9 : 97 ≤ (TL.tl x).getD i 0 ∧ (TL.tl x).getD i 0 ≤ 122 := by
      rw [Bool.not_eq_false', decide_eq_true_eq, hin, hcg] at hc9
      exact hc9
    exact as_nil ⟨_, rfl, rfl, fun j hj => (Nat.lt_succ_iff_lt_or_eq.mp hj).elim (hd j) (fun e => by subst e; exact hc9)⟩
  obtain ⟨y, rfl, rfl, hd⟩ := hI
  refine as_retv (av_var (i := 0) rfl (.inl rfl) rfl) (hk ⟨by omega, by omega, fun c hc => ?_⟩)
  obtain ⟨j, hj, e⟩ := List.getElem_of_mem hc
  have := hd j (by show j < x.length; rw [hlx]; exact hj)
  rw [List.getD_eq_getElem?_getD, List.getElem?_eq_getElem hj, Option.getD_some, e] at this
  exact this
/-- what a level is -/
def LevelL (l : List Nat) (i : Int) : Prop := ∃ c : Nat, l = [c] ∧ 48 ≤ c ∧ c ≤ 54 ∧ i = (c : Int) - 48
def ct_read_level (C : Addr) : Ct := fun ds A k e => ∃ (x : Str), ds = [.str x] ∧ x.length ≤ 1000000 ∧ (∀ i, LevelL (TL.tl x) i → k (.int i) A) ∧ ((∀ i, ¬ LevelL (TL.tl x) i) → e (.ref C) A)
theorem ok_read_level (T : Txt K mg) : Fn P w K mg base "read_level" 1 (ct_read_level T.C_NoText) := by
  refine fn_mk T.d_read_level sc_read_level (fun ds A k e h => ?_) fun f cdv A0 outer s H E hr hp htk ds A kk ee h => ?_
  · obtain ⟨x, rfl, _⟩ := h; rfl
  obtain ⟨x, rfl, hl, hk, he⟩ := h
  have hlx : x.length = (TL.tl x).length := TL.len_tl x
  by_cases h1 : x.length = 1
  · obtain ⟨c, hc⟩ : ∃ c, TL.tl x = [c] := by
      rw [hlx] at h1
      match hz : TL.tl x, h1 with
      | [c], _ => exact ⟨c, rfl⟩
    have ex : x = ⟨#[c]⟩ := TL.ext_tl (by rw [hc])
    subst ex
    have hin : c ∈ (("0123456" : Str)).cps.toList ↔ 48 ≤ c ∧ c ≤ 54 := by
      show c ∈ [48, 49, 50, 51, 52, 53, 54] ↔ _
      simp only [List.mem_cons, List.not_mem_nil, or_false]
      omega
    refine as_if (AW.at (aw_or (at_ne (av_lenS rfl T.m_len (av_var (i := 0) rfl (.inl rfl) rfl) (Nat.le_of_lt (small_sz2 (by omega)))) av_int) fun _ => (aw_or1 (at_notInSg (av_var (i := 0) rfl (.inl rfl) rfl) av_str)))) (fun hb => ?_) (fun hb => as_end ?_)
    · refine as_cons (a1_raiseF T.e_NoText rfl htk rfl (he fun i ⟨c', e, h2, h3, _⟩ => ?_))
      have e : c = c' := by rw [hc] at e; exact (List.cons.inj e).1
      subst e
      have := hin.mpr ⟨h2, h3⟩
      simp [this, h1] at hb
    have hc9 : 48 ≤ c ∧ c ≤ 54 := by
      refine hin.mp (Classical.byContradiction fun hn => ?_)
      simp [hn] at hb
    have ho : okW (TL.tl (⟨#[c]⟩ : Str)) := by
      rw [hc]
      have hf : figs [c] = [c] := by
        unfold figs
        rw [if_neg (by intro e; have := Option.some.inj e; omega)]
      refine ⟨by rw [hf]; simp, by rw [hf]; simp, ?_, fun h => ?_⟩
      · rw [hf]
        intro z hz
        rw [List.mem_singleton.mp hz]
        omega
      · rw [hf] at h
        rw [Option.some.inj h]
    have hv : valW (TL.tl (⟨#[c]⟩ : Str)) = (c : Int) - 48 := by
      rw [hc]
      unfold valW
      rw [if_neg (by intro e; have := Option.some.inj e; omega)]
      have : NumText.digitsVal [c] = c - 48 := by simp [NumText.digitsVal]
      rw [this]
      omega
    refine as_retv (av_intS rfl T.m_int (av_var (i := 0) rfl (.inl rfl) rfl) (int_ok ho) (by omega)) ?_
    rw [hv]
    exact hk _ ⟨c, hc, hc9.1, hc9.2, rfl⟩
  · refine as_if (bb := true) (AT.is (AW.at (aw_or (b1 := true) (b2 := true) (AT.is (at_ne (av_lenS rfl T.m_len (av_var (i := 0) rfl (.inl rfl) rfl) (Nat.le_of_lt (small_sz2 (by omega)))) av_int) (by simp; omega)) fun h => nomatch h)) (by rfl)) (fun _ => ?_) (fun h => nomatch h)
    exact as_cons (a1_raiseF T.e_NoText rfl htk rfl (he fun i ⟨c, e, _⟩ => h1 (by rw [hlx, e]; rfl)))
/-- what a word is by its shape -/
def WordV (c : Nat) (x : Str) (d : D) : Prop := if c = 115 then ∃ q, rdS (TL.tl x) q ∧ d = sh q else if c = 108 then ∃ i, LevelL (TL.tl x) i ∧ d = .int i else NameL (TL.tl x) ∧ d = .str x
def ct_read_word (C : Addr) : Ct := fun ds A k e => ∃ (x : Str) (c : Nat), ds = [.str x, .str ⟨#[c]⟩] ∧ x.length ≤ 1000000 ∧ (∀ d, WordV c x d → k d A) ∧ ((∀ d, ¬ WordV c x d) → e (.ref C) A)
theorem sign_eq {c d : Nat} : ((⟨#[c]⟩ : Str) = ⟨#[d]⟩) ↔ c = d := by
  constructor
  · intro e
    have := congrArg TL.tl e
    have h9 : [c] = [d] := this
    injection h9
  · intro e; rw [e]
theorem ok_read_word (T : Txt K mg) : Fn P w K mg base "read_word" 4 (ct_read_word T.C_NoText) := by
  refine fn_mk T.d_read_word sc_read_word (fun ds A k e h => ?_) fun f cdv A0 outer s H E hr hp htk ds A kk ee h => ?_
  · obtain ⟨x, c, rfl, _⟩ := h; rfl
  obtain ⟨x, c, rfl, hl, hk, he⟩ := h
  have es : ((("s" : Str)) = ⟨#[115]⟩) := rfl
  have el : ((("l" : Str)) = ⟨#[108]⟩) := rfl
  refine as_if (at_eqS (av_var (i := 1) rfl (.inl rfl) rfl) av_str) (fun hb => ?_) (fun hb => as_end ?_)
  · have hb : c = 115 := sign_eq.mp (of_decide_eq_true hb)
    refine as_cons (a1_retx (aex_call (ok_read_share T) htk (hr.mono (by decide)) rfl (AVs.aes (avs_c (av_var (i := 0) rfl (.inl rfl) rfl) avs_nil) ⟨x, rfl, hl, fun q h => hk _ (by unfold WordV; rw [if_pos hb]; exact ⟨q, h, rfl⟩), fun no => he fun d h => ?_⟩)))
    unfold WordV at h
    rw [if_pos hb] at h
    obtain ⟨q, h, _⟩ := h
    exact no q h
  have hb : ¬ c = 115 := fun z => of_decide_eq_false hb (sign_eq.mpr z)
  refine as_if (at_eqS (av_var (i := 1) rfl (.inl rfl) rfl) av_str) (fun hb2 => ?_) (fun hb2 => as_end ?_)
  · have hb2 : c = 108 := sign_eq.mp (of_decide_eq_true hb2)
    refine as_cons (a1_retx (aex_call (ok_read_level T) htk (hr.mono (by decide)) rfl (AVs.aes (avs_c (av_var (i := 0) rfl (.inl rfl) rfl) avs_nil) ⟨x, rfl, hl, fun i h => hk _ (by unfold WordV; rw [if_neg hb, if_pos hb2]; exact ⟨i, h, rfl⟩), fun no => he fun d h => ?_⟩)))
    unfold WordV at h
    rw [if_neg hb, if_pos hb2] at h
    obtain ⟨i, h, _⟩ := h
    exact no i h
  have hb2 : ¬ c = 108 := fun z => of_decide_eq_false hb2 (sign_eq.mpr z)
  refine as_cons (a1_retx (aex_call (ok_read_name T) htk (hr.mono (by decide)) rfl (AVs.aes (avs_c (av_var (i := 0) rfl (.inl rfl) rfl) avs_nil) ⟨x, rfl, hl, fun h => hk _ (by unfold WordV; rw [if_neg hb, if_neg hb2]; exact ⟨h, rfl⟩), fun no => he fun d h => ?_⟩)))
  unfold WordV at h
  rw [if_neg hb, if_neg hb2] at h
  exact no h.1
/-- the point that a text is read to, if it is read -/
noncomputable def ptOf (x : Str) : Pt := by
  classical
  exact if h : ∃ p, rdP (TL.tl x) p then h.choose else (0, 0)
theorem ptOf_rd {x : Str} (h : ∃ p, rdP (TL.tl x) p) : rdP (TL.tl x) (ptOf x) := by
  unfold ptOf
  rw [dif_pos h]
  exact h.choose_spec
def ct_read_curve (C : Addr) : Ct := fun ds A k e => ∃ (x : Str), ds = [.str x] ∧ x.length ≤ 500000 ∧ (∀ row, rdC x row → ∀ p, A p = none → k (.ref p) (aupd A p (.lst (row.map pt)))) ∧ ((∀ row, ¬ rdC x row) → ∀ A', Ext A A' → e (.ref C) A')
theorem ok_read_curve (T : Txt K mg) : Fn P w K mg base "read_curve" 5 (ct_read_curve T.C_NoText) := by
  refine fn_mk T.d_read_curve sc_read_curve (fun ds A k e h => ?_) fun f cdv A0 outer s H E hr hp htk ds A kk ee h => ?_
  · obtain ⟨x, rfl, _⟩ := h; rfl
  obtain ⟨x, rfl, hl, hk, he⟩ := h
  refine as_if (bb := false) (AT.is (at_not (at_val (av_isi rfl T.m_isinstance (avs_c (av_var (i := 0) rfl (.inl rfl) rfl) (avs_c (av_ty rfl T.m_str bo_str) avs_nil)) (.str _) kt_str_str))) (by rfl)) (fun hb => nomatch hb) (fun _ => as_end ?_)
  obtain ⟨ps, hpe⟩ : ∃ ps, ps = Txt.split x " " := ⟨_, rfl⟩
  have hpn : ∀ i, i < ps.length → (ps.getD i default).length ≤ 1000000 := fun i hi => by
    have h1 := split_part_len x (by rw [← hpe, List.getD_eq_getElem?_getD, List.getElem?_eq_getElem hi]; exact List.getElem_mem hi : ps.getD i default ∈ Txt.split x " ")
    omega
  have hrd : ∀ row, rdC x row ↔ ps.length ≤ 12 ∧ row.length = ps.length ∧ ∀ i, i < row.length → rdP (TL.tl (ps.getD i default)) (gp row i) := fun row => by rw [hpe]; exact Iff.rfl
  refine as_set (i := 1) sc_read_curve.nd rfl (.inl rfl) (AV.ae (AV.is (av_split (av_var (i := 0) rfl (.inl rfl) rfl) av_str (by decide) (Nat.le_of_lt (small_sz (by omega)))) (show _ = D.fz (ps.map D.str) by rw [hpe])) ?_)
  refine as_if (at_gt (av_lenD rfl T.m_len (av_var (i := 1) rfl (.inl rfl) rfl) IsL.fz) (av_globI rfl T.g_MOST_PARTS)) (fun hb => ?_) (fun hb => as_end ?_)
  · have hb : (12 : Int) < ((ps.map D.str).length : Int) := by simpa using hb
    rw [List.length_map] at hb
    exact as_cons (a1_raiseF T.e_NoText rfl htk rfl (he (fun row h => by have := ((hrd row).mp h).1; omega) _ (Ext.refl _)))
  have hb : ps.length ≤ 12 := by
    have : ¬ (12 : Int) < (ps.length : Int) := by simpa using hb
    omega
  refine as_cons (a1_retx (aex_lcV rfl rfl rfl sc_read_curve.nd htk (blkOk_by rfl) (own := [("part", 2)]) (is := [2]) (g := fun i => pt (ptOf (ps.getD i default))) (good := fun i => ∃ p, rdP (TL.tl (ps.getD i default)) p) (by decide) (ai_F (default : Str) (f := D.str) (av_var (i := 1) rfl (.inl rfl) rfl) ⟨rfl, Ext.refl _, (Nat.le_of_lt (small1000 (by omega))), (fun _ x => trivial), fun i hi => ⟨_, fun s H C cl fp xe => ⟨(ag_name (i := 2) sc_read_curve.nd rfl (.inl rfl)), fun A' x9 k9 hk9 => aey_call (ok_read_point T) (hr.mono (by decide)) rfl (AVs.aes (avs_c (av_var (i := 2) rfl (.inl rfl) rfl) avs_nil) ⟨_, rfl, hpn i hi, fun p h => ?_, fun no => ?_⟩)⟩⟩⟩) fun hg p hp9 => ?_))
  · rw [rdP_one h (ptOf_rd ⟨p, h⟩)]
    exact hk9 ⟨p, h⟩
  · exact he (fun row h => no _ (((hrd row).mp h).2.2 i (by have := ((hrd row).mp h).2.1; omega))) _ x9
  have hz := hk ((List.range ps.length).map fun i => ptOf (ps.getD i default)) ((hrd _).mpr ⟨hb, by simp, fun i hi => by
    have hi' : i < ps.length := by simpa using hi
    have e : gp ((List.range ps.length).map fun i => ptOf (ps.getD i default)) i = ptOf (ps.getD i default) := by
      unfold gp
      rw [List.getD_eq_getElem?_getD, List.getElem?_map, List.getElem?_range hi']; rfl
    rw [e]
    exact ptOf_rd (hg i hi')⟩) p hp9
  rw [List.map_map] at hz
  exact hz
theorem WordV_one {c : Nat} {x : Str} {d d' : D} (h : WordV c x d) (g : WordV c x d') : d = d' := by
  unfold WordV at h g
  split at h
  · rename_i hc
    rw [if_pos hc] at g
    obtain ⟨q, h1, rfl⟩ := h
    obtain ⟨r, h2, rfl⟩ := g
    rw [rdS_one h1 h2]
  · rename_i hc
    rw [if_neg hc] at g
    split at h
    · rename_i hc2
      rw [if_pos hc2] at g
      obtain ⟨i, ⟨a, e1, _, _, rfl⟩, rfl⟩ := h
      obtain ⟨j, ⟨b, e2, _, _, rfl⟩, rfl⟩ := g
      rw [e1] at e2
      cases e2
      rfl
    · rename_i hc2
      rw [if_neg hc2] at g
      rw [h.2, g.2]
noncomputable def wdOf (c : Nat) (x : Str) : D := by
  classical
  exact if h : ∃ d, WordV c x d then h.choose else .non
theorem wdOf_ok {c : Nat} {x : Str} (h : ∃ d, WordV c x d) : WordV c x (wdOf c x) := by
  unfold wdOf
  rw [dif_pos h]
  exact h.choose_spec
/-- what a row is read to: its words, the first, the rest of a curve's -/
def RowV (ps : List Str) (d : D) : Prop :=
  (ps.getD 0 default = "curve" ∧ 2 < ps.length ∧ ∃ row, NameL (TL.tl (ps.getD 1 default)) ∧ rdC (Str.join " " (ps.drop 2)) row ∧ d = .tup [.str "curve", .fz [.str (ps.getD 1 default), fzs pt row]]) ∨
  (¬ (ps.getD 0 default = "curve" ∧ 2 < ps.length) ∧ ∃ sh, lkT kvs_SHAPES (ps.getD 0 default) = some sh ∧ sh.cps.size + 1 = ps.length ∧ (∀ i, i < sh.cps.size → ∃ v, WordV (sh.cps.getD i 0) (ps.getD (i + 1) default) v) ∧
    d = .tup [.str (ps.getD 0 default), .fz ((List.range sh.cps.size).map fun i => wdOf (sh.cps.getD i 0) (ps.getD (i + 1) default))])
def ct_read_row (N : Addr) : Ct := fun ds A k e => ∃ (x : Str), ds = [.str x] ∧ x.length ≤ 200000 ∧ (∀ d, RowV (Txt.split x " ") d → k d A) ∧ ((∀ d, ¬ RowV (Txt.split x " ") d) → ∀ A', Ext A A' → e (.ref N) A')
theorem shapes_small : ∀ {w sh : Str}, lkT kvs_SHAPES w = some sh → sh.cps.size ≤ 10 := by
  intro w sh h
  have hall : ∀ q ∈ kvs_SHAPES, q.2.cps.size ≤ 10 := by decide
  unfold lkT at h
  obtain ⟨q, hq, rfl⟩ := Option.map_eq_some_iff.mp h
  exact hall q (List.mem_of_find?_eq_some hq)
theorem spl_pos (S : List Nat) : ∀ (l acc : List Nat) (k : Nat), 0 < (TL.spl S k acc l).length
  | [], acc, k => by rw [TL.spl_nil]; simp
  | c :: r, acc, k + 1 => spl_pos S r acc k
  | c :: r, acc, 0 => by
    cases h : TL.pre S (c :: r) with
    | true => rw [TL.spl_hit h]; simp
    | false => rw [TL.spl_miss h]; exact spl_pos S r (acc ++ [c]) 0
theorem split_pos1 (x : Str) : 0 < (Txt.split x " ").length := by
  have := spl_pos (TL.tl " ") (TL.tl x) [] 0
  rw [← TL.split_spl _ _ (by decide) (TL.kind_ok (all256 (l := [32]) rfl rfl)), List.length_map] at this
  exact this
theorem rdC_one {x : Str} {r s : List Pt} (h : rdC x r) (g : rdC x s) : r = s := by
  have hl : r.length = s.length := h.2.1.trans g.2.1.symm
  refine List.ext_getElem hl fun i h1 h2 => ?_
  have a := h.2.2 i h1
  have b := g.2.2 i h2
  have e := rdP_one a b
  unfold gp at e
  rw [List.getD_eq_getElem?_getD, List.getElem?_eq_getElem h1, List.getD_eq_getElem?_getD, List.getElem?_eq_getElem h2] at e
  exact e
/-! what is read: its signs -/
def okC (c : Nat) : Prop := c = 45 ∨ c = 47 ∨ (48 ≤ c ∧ c ≤ 57)
theorem okW_sign {l : List Nat} (h : okW l) : ∀ c ∈ l, c = 45 ∨ (48 ≤ c ∧ c ≤ 57) := fun c hc => by
  have hd := h.2.2.1
  unfold figs at hd
  split at hd
  · rename_i e
    cases l with
    | nil => cases hc
    | cons a t =>
      rcases List.mem_cons.mp hc with rfl | hc
      · exact .inl (Option.some.inj e)
      · exact .inr (hd c hc)
  · exact .inr (hd c hc)
theorem rdS_sign {l : List Nat} {q : Rat} (h : rdS l q) : ∀ c ∈ l, okC c := fun c hc => by
  rcases h with ⟨_, h, _⟩ | ⟨a, b, rfl, _, h1, h2, _⟩
  · exact (okW_sign h c hc).imp id .inr
  · rcases List.mem_append.mp hc with hc | hc
    · exact (okW_sign h1 c hc).imp id .inr
    · rcases List.mem_cons.mp hc with rfl | hc
      · exact .inr (.inl rfl)
      · exact (okW_sign h2 c hc).imp id .inr
theorem rdP_sign {l : List Nat} {p : Pt} (h : rdP l p) : ∀ c ∈ l, c = 44 ∨ okC c := fun c hc => by
  obtain ⟨a, b, rfl, _, h1, h2⟩ := h
  rcases List.mem_append.mp hc with hc | hc
  · exact .inr (rdS_sign h1 c hc)
  · rcases List.mem_cons.mp hc with rfl | hc
    · exact .inl rfl
    · exact .inr (rdS_sign h2 c hc)
theorem rdP_commas {l : List Nat} {p : Pt} (h : rdP l p) : l.count 44 = 1 := by
  obtain ⟨a, b, rfl, ha, _, h2⟩ := h
  have hb : 44 ∉ b := fun hm => by
    rcases rdS_sign h2 44 hm with e | e | e <;> omega
  rw [List.count_append, List.count_cons, List.count_eq_zero_of_not_mem ha, List.count_eq_zero_of_not_mem hb]
  rfl
theorem rdP_nil (p : Pt) : ¬ rdP [] p := fun h => by have := rdP_commas h; simp at this
theorem spl32_hit (acc r : List Nat) : TL.spl [32] 0 acc (32 :: r) = acc :: TL.spl [32] 0 [] r := TL.spl_hit rfl
theorem spl32_miss {acc r : List Nat} {c : Nat} (h : c ≠ 32) : TL.spl [32] 0 acc (c :: r) = TL.spl [32] 0 (acc ++ [c]) r := TL.spl_miss (TL.pre_of_head [] r h)
theorem spl32_sum {c : Nat} (hc : c ≠ 32) : ∀ (l acc : List Nat), ((TL.spl [32] 0 acc l).map (List.count c)).sum = acc.count c + l.count c
  | [], acc => by rw [TL.spl_nil]; simp
  | a :: r, acc => by
    by_cases h : a = 32
    · subst h
      rw [spl32_hit, List.map_cons, List.sum_cons, spl32_sum hc r [], List.count_cons_of_ne (fun e => hc e.symm)]
      simp
    · rw [spl32_miss h, spl32_sum hc r, List.count_append, List.count_cons, List.count_cons]
      simp [List.count_nil]
      omega
theorem spl32_num : ∀ (l acc : List Nat), (TL.spl [32] 0 acc l).length = l.count 32 + 1
  | [], acc => by rw [TL.spl_nil]; simp
  | a :: r, acc => by
    by_cases h : a = 32
    · subst h
      rw [spl32_hit, List.length_cons, spl32_num r [], List.count_cons_self]
    · rw [spl32_miss h, spl32_num r, List.count_cons_of_ne h]
theorem spl32_app : ∀ (a acc b : List Nat), TL.spl [32] 0 acc (a ++ 32 :: b) = TL.spl [32] 0 acc a ++ TL.spl [32] 0 [] b
  | [], acc, b => by rw [List.nil_append, spl32_hit, TL.spl_nil]; rfl
  | c :: r, acc, b => by
    by_cases h : c = 32
    · subst h
      rw [List.cons_append, spl32_hit, spl32_hit, spl32_app r [] b]; rfl
    · rw [List.cons_append, spl32_miss h, spl32_miss h, spl32_app r _ b]
theorem pcs_eq (x : Str) : (Txt.split x " ").map TL.tl = TL.spl [32] 0 [] (TL.tl x) := TL.split_spl _ _ (by decide) (TL.kind_ok (all256 (l := [32]) rfl rfl))
theorem rdC_pcs {x : Str} {row : List Pt} (h : rdC x row) : ∀ l ∈ TL.spl [32] 0 [] (TL.tl x), ∃ p, rdP l p := fun l hl => by
  rw [← pcs_eq] at hl
  obtain ⟨s, hs, rfl⟩ := List.mem_map.mp hl
  obtain ⟨i, hi, rfl⟩ := List.mem_iff_getElem.mp hs
  have := h.2.2 i (by rw [h.2.1]; exact hi)
  rw [List.getD_eq_getElem?_getD, List.getElem?_eq_getElem hi] at this
  exact ⟨_, this⟩
theorem sum_nils {f : List Nat → Nat} : ∀ {ps : List (List Nat)}, (∀ l ∈ ps, f l = 0) → (ps.map f).sum = 0
  | [], _ => rfl
  | p :: ps, h => by
    rw [List.map_cons, List.sum_cons, sum_nils (fun l hl => h l (List.mem_cons_of_mem _ hl)), h p (List.mem_cons_self ..)]
theorem rdC_sign {x : Str} {row : List Pt} (h : rdC x row) : ∀ c ∈ TL.tl x, c = 32 ∨ c = 44 ∨ okC c := fun c hc => by
  by_cases h32 : c = 32
  · exact .inl h32
  refine .inr (Classical.byContradiction fun hno => ?_)
  have h1 := spl32_sum h32 (TL.tl x) []
  rw [sum_nils fun l hl => List.count_eq_zero_of_not_mem fun hm => (rdC_pcs h l hl).elim fun p hp => hno (rdP_sign hp c hm)] at h1
  have h2 := List.count_pos_iff.mpr hc
  rw [List.count_nil, Nat.zero_add] at h1
  omega
theorem spl32_len : ∀ (l acc : List Nat), ((TL.spl [32] 0 acc l).map List.length).sum + l.count 32 = acc.length + l.length
  | [], acc => by rw [TL.spl_nil]; simp
  | a :: r, acc => by
    by_cases h : a = 32
    · subst h
      have ih := spl32_len r []
      rw [spl32_hit, List.map_cons, List.sum_cons, List.count_cons_self, List.length_cons]
      simp at ih
      omega
    · have ih := spl32_len r (acc ++ [a])
      rw [spl32_miss h, List.count_cons_of_ne h, List.length_cons]
      rw [List.length_append] at ih
      simp at ih
      omega
theorem split_sum (x : Str) : ((Txt.split x " ").map (·.length)).sum ≤ x.length := by
  have h1 := spl32_len (TL.tl x) []
  rw [← pcs_eq, List.map_map] at h1
  have h2 : ((Txt.split x " ").map (List.length ∘ TL.tl)) = (Txt.split x " ").map (·.length) := List.map_congr_left fun p _ => (TL.len_tl p).symm
  rw [h2, ← TL.len_tl] at h1
  simp at h1
  omega
theorem sum_drop2 (ps : List Str) : ((ps.drop 2).map (·.length)).sum ≤ (ps.map (·.length)).sum := by
  match ps with
  | [] => simp
  | [_] => simp
  | a :: b :: r => simp only [List.drop_succ_cons, List.drop_zero, List.map_cons, List.sum_cons]; omega
theorem ok_read_row (T : Txt K mg) (TW : TxW w T) : Fn P w K mg base "read_row" 6 (ct_read_row T.C_NoText) := by
  refine fn_mk T.d_read_row sc_read_row (fun ds A k e h => ?_) fun f cdv A0 outer s H E hr hp htk ds A kk ee h => ?_
  · obtain ⟨x, rfl, _⟩ := h; rfl
  obtain ⟨x, rfl, hl, hk, he⟩ := h
  refine as_if (bb := false) (AT.is (at_not (at_val (av_isi rfl T.m_isinstance (avs_c (av_var (i := 0) rfl (.inl rfl) rfl) (avs_c (av_ty rfl T.m_str bo_str) avs_nil)) (.str _) kt_str_str))) (by rfl)) (fun hb => nomatch hb) (fun _ => as_end ?_)
  obtain ⟨ps, hpe⟩ : ∃ ps, ps = Txt.split x " " := ⟨_, rfl⟩
  rw [← hpe] at hk he
  have hpm : ∀ p ∈ ps, p.length ≤ x.length := fun p h => split_part_len x (by rw [← hpe]; exact h)
  have hpn : ∀ i, (ps.getD i default).length ≤ 200000 := fun i => by
    by_cases hi : i < ps.length
    · have h1 := hpm (ps.getD i default) (by rw [List.getD_eq_getElem?_getD, List.getElem?_eq_getElem hi]; exact List.getElem_mem hi)
      omega
    · rw [List.getD_eq_getElem?_getD, List.getElem?_eq_none (by omega)]
      decide
  have hp0 : 0 < ps.length := by rw [hpe]; exact split_pos1 x
  have hps : ps.length ≤ 200001 := by
    have h1 := congrArg List.length (pcs_eq x)
    rw [List.length_map, ← hpe, spl32_num] at h1
    have h2 : (TL.tl x).count 32 ≤ (TL.tl x).length := List.count_le_length
    rw [TL.len_tl] at hl
    omega
  refine as_set (i := 1) sc_read_row.nd rfl (.inl rfl) (AV.ae (AV.is (av_split (av_var (i := 0) rfl (.inl rfl) rfl) av_str (by decide) (Nat.le_of_lt (small_sz (by omega)))) (show _ = D.fz (ps.map D.str) by rw [hpe])) ?_)
  refine as_if (AW.at (aw_and (at_eqS (av_ixN (f := D.str) default (av_var (i := 1) rfl (.inl rfl) rfl) av_int (n := 0) rfl hp0) av_str) fun _ => (aw_and1 (at_gt (av_lenD rfl T.m_len (av_var (i := 1) rfl (.inl rfl) rfl) IsL.fz) av_int)))) (fun hb => ?_) (fun hb => as_end ?_)
  · have hb : ps.getD 0 default = "curve" ∧ 2 < ps.length := by
      rw [Bool.and_eq_true, decide_eq_true_eq, decide_eq_true_eq] at hb
      exact ⟨hb.1, by have := hb.2; omega⟩
    have hsum : ((ps.drop 2).map (·.length)).sum ≤ 200000 := by
      have h1 := sum_drop2 ps
      have h2 := split_sum x
      rw [← hpe] at h2
      omega
    have hdl : (ps.drop 2).length ≤ 200001 := by rw [List.length_drop]; omega
    have hj : (Str.join " " (ps.drop 2)).length ≤ 500000 := by
      rw [TL.len_tl, TL.tl_join]
      have h1 := joinL_len (TL.tl " ") ((ps.drop 2).map TL.tl)
      rw [List.map_map, List.length_map] at h1
      have h2 : ((ps.drop 2).map (List.length ∘ TL.tl)) = (ps.drop 2).map (·.length) := List.map_congr_left fun p _ => (TL.len_tl p).symm
      rw [h2] at h1
      have h3 : (TL.tl " ").length = 1 := rfl
      rw [h3] at h1
      omega
    refine as_cons (a1_retx (AEx.frz (aex_tup (aesx_cons (AE.aex (AV.ae av_str (aesx_cons (aex_lst (aesx_cons (aex_call (ok_read_name T) htk (hr.mono (by decide)) rfl (AVs.aes (avs_c (av_ixN (f := D.str) default (av_var (i := 1) rfl (.inl rfl) rfl) av_int (n := 1) rfl (by omega)) avs_nil) ⟨_, rfl, by have := hpn 1; omega, fun hn => aesx_cons (aex_call (ok_read_curve T) htk (hr.mono (by decide)) rfl (AVs.aes (avs_c (av_join (ys := ps.drop 2) av_str (AV.is (av_slF (f := D.str) (av_var (i := 1) rfl (.inl rfl) rfl) IsL.fz (lo' := some ((2 : Nat) : Int)) (hi' := none) av_int trivial) (show _ = D.fz ((ps.drop 2).map D.str) by rw [cutL_drop])) IsL.fz (by have e1 : ((" " : Str)).length = 1 := rfl; rw [e1]; omega)) avs_nil) ⟨_, rfl, hj, fun row hrow q hq => aesx_nil ⟨Nat.le_of_ble_eq_true rfl, fun p hp9 => aesx_nil ⟨Nat.le_of_ble_eq_true rfl, ?_⟩⟩, fun no A9 e9 => he (fun d h => ?_) A9 e9⟩)), fun no => he (fun d h => ?_) _ (Ext.refl _)⟩)))))))))))
    · have hqp : q ≠ p := fun e => by rw [← e, aupd_same] at hp9; cases hp9
      have hpA : A p = none := by rw [aupd_ne (fun e => hqp e.symm)] at hp9; exact hp9
      refine ⟨A, .tup [.str "curve", .fz [.str (ps.getD 1 default), fzs pt row]], (Ext.new hq).trans (Ext.new hp9), .tup (.cons (.same _) (.cons (.lst hpA aupd_same (.cons (.same _) (.cons (.lst hq (by rw [aupd_ne hqp]; exact aupd_same) (Frs.refl _)) .nil))) .nil)), hk _ (.inl ⟨hb.1, hb.2, row, hn, hrow, rfl⟩)⟩
    · rcases h with ⟨_, _, row, _, h, _⟩ | ⟨h, _⟩
      · exact no row h
      · exact h hb
    · rcases h with ⟨_, _, row, h, _⟩ | ⟨h, _⟩
      · exact no h
      · exact h hb
  have hb : ¬ (ps.getD 0 default = "curve" ∧ 2 < ps.length) := fun h => by
    have h2 : (2 : Int) < ((ps.map D.str).length : Int) := by rw [List.length_map]; have := h.2; omega
    have h3 : (2 : Int) < (ps.length : Int) := by have := h.2; omega
    rw [Bool.and_eq_false_iff] at hb
    rcases hb with h9 | h9
    · exact of_decide_eq_false h9 h.1
    · exact of_decide_eq_false h9 (by first | exact h2 | exact h3)
  cases hsh : lkT kvs_SHAPES (ps.getD 0 default) with
  | none =>
    refine as_if (bb := true) (AT.is (AW.at (aw_or (b1 := true) (b2 := true) (AT.is (at_notInKd TW.kd_SHAPES (av_ixN (f := D.str) default (av_var (i := 1) rfl (.inl rfl) rfl) av_int (n := 0) rfl hp0) (av_glob rfl T.g_SHAPES (v := .ref T.c_SHAPES) rfl (fun _ => .ref _))) (by rw [hsh]; rfl)) fun h => nomatch h)) (by rfl)) (fun _ => ?_) (fun h => nomatch h)
    exact as_cons (a1_raiseF T.e_NoText rfl htk rfl (he (fun d h => by
      rcases h with ⟨h1, h2, _⟩ | ⟨_, sh, h, _⟩
      · exact hb ⟨h1, h2⟩
      · rw [hsh] at h; cases h) _ (Ext.refl _)))
  | some sh =>
    have hs10 := shapes_small hsh
    refine as_if (AW.at (aw_or (AT.is (at_notInKd TW.kd_SHAPES (av_ixN (f := D.str) default (av_var (i := 1) rfl (.inl rfl) rfl) av_int (n := 0) rfl hp0) (av_glob rfl T.g_SHAPES (v := .ref T.c_SHAPES) rfl (fun _ => .ref _))) (show _ = false by rw [hsh]; rfl)) fun _ => (aw_or1 (at_ne (av_lenS rfl T.m_len (av_ixKd TW.kd_SHAPES (av_glob rfl T.g_SHAPES (v := .ref T.c_SHAPES) rfl (fun _ => .ref _)) (av_ixN (f := D.str) default (av_var (i := 1) rfl (.inl rfl) rfl) av_int (n := 0) rfl hp0) hsh) (Nat.le_of_lt (small_sz2 (show sh.cps.size < 2000000 by omega)))) (av_sub (av_lenD rfl T.m_len (av_var (i := 1) rfl (.inl rfl) rfl) IsL.fz) av_int))))) (fun h8 => ?_) (fun h8 => as_end ?_)
    · have h8 : ¬ sh.cps.size + 1 = ps.length := fun e => by
        have h9 : ((sh.length : Nat) : Int) = ((ps.map D.str).length : Int) - 1 := by
          rw [List.length_map]
          show ((sh.cps.size : Nat) : Int) = _
          omega
        have h10 : ((sh.length : Nat) : Int) = ((ps.length : Nat) : Int) - 1 := by rw [List.length_map] at h9; exact h9
        first
          | (rw [decide_eq_true h9] at h8; simp at h8)
          | (rw [decide_eq_true h10] at h8; simp at h8)
      exact as_cons (a1_raiseF T.e_NoText rfl htk rfl (he (fun d h => by
        rcases h with ⟨h1, h2, _⟩ | ⟨_, sh2, h, h3, _⟩
        · exact hb ⟨h1, h2⟩
        · rw [hsh] at h; cases h; exact h8 h3) _ (Ext.refl _)))
    · have h8 : sh.cps.size + 1 = ps.length := Classical.byContradiction fun hne => by
        have h9 : ¬ ((sh.length : Nat) : Int) = ((ps.map D.str).length : Int) - 1 := by
          rw [List.length_map]
          show ¬ ((sh.cps.size : Nat) : Int) = _
          omega
        have h10 : ¬ ((sh.length : Nat) : Int) = ((ps.length : Nat) : Int) - 1 := by rw [List.length_map] at h9; exact h9
        first
          | (rw [decide_eq_false h9] at h8; simp at h8)
          | (rw [decide_eq_false h10] at h8; simp at h8)
      have hmin : min (ps.drop 1).length sh.cps.size = sh.cps.size := by rw [List.length_drop]; omega
      have hdr : ∀ i, (ps.drop 1).getD i default = ps.getD (i + 1) default := fun i => by
        rw [List.getD_eq_getElem?_getD, List.getElem?_drop, List.getD_eq_getElem?_getD, Nat.add_comm]
      refine as_cons (a1_retx (AEx.frz (aex_tup (aesx_cons (AE.aex (AV.ae (av_ixN (f := D.str) default (av_var (i := 1) rfl (.inl rfl) rfl) av_int (n := 0) rfl hp0) (aesx_cons (aex_lcV rfl rfl rfl sc_read_row.nd htk (blkOk_by rfl) (own := [("word", 2), ("shape", 3)]) (is := [2, 3]) (n := min (ps.drop 1).length sh.cps.size) (g := fun i => wdOf (sh.cps.getD i 0) (ps.getD (i + 1) default)) (good := fun i => ∃ v, WordV (sh.cps.getD i 0) (ps.getD (i + 1) default) v) (by decide) (ai_zipS (f := D.str) (default : Str) rfl T.m_zip (avs_c (AV.is (av_slF (f := D.str) (av_var (i := 1) rfl (.inl rfl) rfl) IsL.fz (lo' := some ((1 : Nat) : Int)) (hi' := none) av_int trivial) (show _ = D.fz ((ps.drop 1).map D.str) by rw [cutL_drop])) (avs_c (av_ixKd TW.kd_SHAPES (av_glob rfl T.g_SHAPES (v := .ref T.c_SHAPES) rfl (fun _ => .ref _)) (av_ixN (f := D.str) default (av_var (i := 1) rfl (.inl rfl) rfl) av_int (n := 0) rfl hp0) hsh) avs_nil)) ⟨rfl, Ext.refl _, (Nat.le_of_lt (small1000 (by omega))), (fun _ x => trivial), fun i hi => ⟨_, fun s H C cl fp xe => ⟨(ag_tup rfl (ags_cons (ag_name (i := 2) sc_read_row.nd rfl (.inl rfl)) (ags_cons (ag_name (i := 3) sc_read_row.nd rfl (.inl rfl)) ags_nil))), fun A' x9 k9 hk9 => aey_call (ok_read_word T) (hr.mono (by decide)) rfl (AVs.aes (avs_c (av_var (i := 2) rfl (.inl rfl) rfl) (avs_c (av_var (i := 3) rfl (.inl rfl) rfl) avs_nil)) ⟨_, _, rfl, by rw [hdr]; have := hpn (i + 1); omega, fun d h => ?_, fun no => ?_⟩)⟩⟩⟩) fun hg p hp9 => aesx_nil ⟨Nat.le_of_ble_eq_true rfl, ?_⟩))))))))
      · rw [hdr] at h
        rw [WordV_one h (wdOf_ok ⟨d, h⟩)]
        exact hk9 ⟨d, h⟩
      · refine he (fun d h => ?_) _ x9
        rcases h with ⟨h1, h2, _⟩ | ⟨_, sh2, h, h3, h4, _⟩
        · exact hb ⟨h1, h2⟩
        · rw [hsh] at h
          cases h
          obtain ⟨v, h5⟩ := h4 i (by omega)
          rw [hdr] at no
          exact no v h5
      · refine ⟨A, .tup [.str (ps.getD 0 default), .fz ((List.range sh.cps.size).map fun i => wdOf (sh.cps.getD i 0) (ps.getD (i + 1) default))], Ext.new hp9, .tup (.cons (.same _) (.cons (.lst hp9 aupd_same (by rw [hmin]; exact Frs.refl _)) .nil)), hk _ (.inr ⟨hb, sh, hsh, h8, fun i hi => hg i (by omega), rfl⟩)⟩
/-- a curve kept under a name -/
def putB (bk : List (Str × List Pt)) (n : Str) (row : List Pt) : List (Str × List Pt) := if (bk.any fun q => decide (q.1 = n)) = true then bk.map (fun q => if q.1 = n then (q.1, row) else q) else bk ++ [(n, row)]
theorem putB_A (bk : List (Str × List Pt)) (n : Str) (row : List Pt) : putS (bookA bk) n (fzs pt row) = bookA (putB bk n row) := by
  unfold putS putB bookA
  have e : ((bk.map fun q => (q.1, fzs pt q.2)).any fun q => decide (q.1 = n)) = bk.any fun q => decide (q.1 = n) := by rw [List.any_map]; rfl
  rw [e]
  split
  · rw [List.map_map, List.map_map]
    refine List.map_congr_left fun q _ => ?_
    by_cases h : q.1 = n <;> simp [h]
  · rw [List.map_append]; rfl
theorem RowV_one {ps : List Str} {d d' : D} (h : RowV ps d) (g : RowV ps d') : d = d' := by
  rcases h with ⟨a1, a2, r, _, a3, rfl⟩ | ⟨a1, s, a2, _, _, rfl⟩
  · rcases g with ⟨_, _, r', _, b3, rfl⟩ | ⟨b1, _⟩
    · rw [rdC_one a3 b3]
    · exact absurd ⟨a1, a2⟩ b1
  · rcases g with ⟨b1, b2, _⟩ | ⟨_, s', b2, _, _, rfl⟩
    · exact absurd ⟨b1, b2⟩ a1
    · rw [a2] at b2
      cases b2
      rfl
def lkB (bk : List (Str × List Pt)) (n : Str) : Option (List Pt) := (bk.find? fun q => decide (q.1 = n)).map (·.2)
theorem lkB_A (bk : List (Str × List Pt)) (n : Str) : lkS (bookA bk) n = (lkB bk n).map fun row => fzs pt row := by
  unfold lkS lkB bookA
  rw [List.find?_map, Option.map_map, Option.map_map]
  rfl
/-- the names that a row asks are there -/
def Knw (bk : List (Str × List Pt)) (sh : Str) (ps : List D) : Prop := ∀ i, i < ps.length → sh.cps.getD i 0 = 110 → ∃ m row, ps.getD i .non = .str m ∧ lkB bk m = some row
def w4 : List Str := ["same", "part", "meet", "join"]
def wA : List Str := ["tell", "point", "hull", "box"]
def SayK (M : Addr) (cC cA cH : Ct) (A : AH) (p b : Addr) (bk : List (Str × List Pt)) (w : Str) (ps : List D) (k : AK) (e : Value → AH → Prop) : Prop :=
  (w = "curve" → ∀ n row, ps = [.str n, fzs pt row] → k (.str "ok") (aupd A b (dkS (bookA (putB bk n row))))) ∧
  (w = "names" → k (.str (if bk.isEmpty then "none" else Str.join " " (srtN (bk.map (·.1))))) A) ∧
  (w ≠ "curve" → w ≠ "names" → ∀ sh, lkT kvs_SHAPES w = some sh → (¬ Knw bk sh ps → e (.ref M) A) ∧
    (Knw bk sh ps → ∀ n row, ps.getD 0 .non = .str n → lkB bk n = some row →
      (w ∈ w4 → ∀ n2 row2, ps.getD 1 .non = .str n2 → lkB bk n2 = some row2 → cC [.ref p, .str w, fzs pt row, fzs pt row2, ps.getD (ps.length - 1) .non] A k e) ∧
      (w ∈ wA → cA [.ref p, .str w, fzs pt row, .fz ps] A k e) ∧ (w ∉ w4 → w ∉ wA → cH [.ref p, .str w, fzs pt row, .fz ps] A k e)))
def ct_say (C N M : Addr) (cC cA cH : Ct) : Ct := fun ds A k e => ∃ (p b : Addr) (bk : List (Str × List Pt)) (x : Str), ds = [.ref p, .str x] ∧ x.length ≤ 200000 ∧ IsDesk C A p b bk ∧ bk.length < 64 ∧ (∀ q ∈ bk, q.1.length ≤ 1000) ∧
  ((∀ d, ¬ RowV (Txt.split x " ") d) → ∀ A', Ext A A' → e (.ref N) A') ∧ ∀ w ps, RowV (Txt.split x " ") (.tup [.str w, .fz ps]) → SayK M cC cA cH A p b bk w ps k e
theorem RowV_form {qs : List Str} {d : D} (h : RowV qs d) : ∃ w ps, d = .tup [.str w, .fz ps] ∧ ((w = "curve" ∧ ∃ n row, ps = [.str n, fzs pt row]) ∨ (w ≠ "curve" ∧ ∃ sh, lkT kvs_SHAPES w = some sh ∧ ps.length = sh.cps.size ∧ ∀ i, i < ps.length → sh.cps.getD i 0 = 110 → ∃ m, ps.getD i .non = .str m ∧ NameL (TL.tl m))) := by
  rcases h with ⟨_, _, row, _, _, rfl⟩ | ⟨_, sh, h2, h3, h4, rfl⟩
  · exact ⟨_, _, rfl, .inl ⟨rfl, _, _, rfl⟩⟩
  · refine ⟨_, _, rfl, .inr ⟨fun e => ?_, sh, h2, by rw [List.length_map, List.length_range], fun i hi h9 => ?_⟩⟩
    · rw [e] at h2
      cases h2
    · rw [List.length_map, List.length_range] at hi
      have hw := wdOf_ok (h4 i hi)
      unfold WordV at hw
      rw [if_neg (by rw [h9]; decide), if_neg (by rw [h9]; decide)] at hw
      refine ⟨_, ?_, hw.1⟩
      rw [List.getD_eq_getElem?_getD, List.getElem?_map, List.getElem?_range hi, Option.map_some, Option.getD_some]
      exact hw.2
theorem shapes_first {w sh : Str} (h : lkT kvs_SHAPES w = some sh) (hn : w ≠ "names") : 0 < sh.cps.size ∧ sh.cps.getD 0 0 = 110 := by
  have hall : ∀ q ∈ kvs_SHAPES, q.1 ≠ "names" → 0 < q.2.cps.size ∧ q.2.cps.getD 0 0 = 110 := by decide
  unfold lkT at h
  obtain ⟨q, hq, rfl⟩ := Option.map_eq_some_iff.mp h
  have h1 := List.find?_some hq
  exact hall q (List.mem_of_find?_eq_some hq) (by rw [of_decide_eq_true h1]; exact hn)
theorem shapes_second {w sh : Str} (h : lkT kvs_SHAPES w = some sh) (hn : w ∈ w4) : 2 ≤ sh.cps.size ∧ sh.cps.getD 1 0 = 110 := by
  have hall : ∀ q ∈ kvs_SHAPES, q.1 ∈ w4 → 2 ≤ q.2.cps.size ∧ q.2.cps.getD 1 0 = 110 := by decide
  unfold lkT at h
  obtain ⟨q, hq, rfl⟩ := Option.map_eq_some_iff.mp h
  have h1 := List.find?_some hq
  exact hall q (List.mem_of_find?_eq_some hq) (by rw [of_decide_eq_true h1]; exact hn)
theorem fz_id (ps : List D) : D.fz ps = D.fz (ps.map id) := by rw [List.map_id]
theorem ok_say (T : Txt K mg) (TW : TxW w T) {lv : Nat} {cC cA cH : Ct} (hlv : 10 ≤ lv) (FC : Mt P w K mg base T.C_Desk "compared" lv cC) (FA : Mt P w K mg base T.C_Desk "asked" lv cA) (FH : Mt P w K mg base T.C_Desk "changed" lv cH) :
    Mt P w K mg base T.C_Desk "say" (lv + 1) (ct_say T.C_Desk T.C_NoText T.C_NoName cC cA cH) := by
  refine mt_mk T.d_Desk_say sc_Desk_say (fun ds A k e h => ?_) fun f cdv A0 outer s H E hr hp htk ds A kk ee h => ?_
  · obtain ⟨p, b, bk, x, rfl, _⟩ := h; rfl
  obtain ⟨p, b, bk, x, rfl, hl, hD, hbl, hbn, hno, hyes⟩ := h
  obtain ⟨y, h1⟩ := hD.at_
  refine as_cons (a1_asgx (is := [2, 3]) (aex_call (ok_read_row T TW) htk (hr.mono (by omega)) rfl (AVs.aes (avs_c  (av_var (i := 1) rfl (.inl rfl) rfl) avs_nil) ⟨x, rfl, hl, fun d hd => ?_, fun no A' e' => hno no A' e'⟩)))
  obtain ⟨w, ps, rfl, hf⟩ := RowV_form hd
  obtain ⟨hc, hn, ho⟩ := hyes w ps hd
  refine ⟨_, (ag_tup rfl (ags_cons (ag_name (i := 2) sc_Desk_say.nd rfl (.inl rfl)) (ags_cons (ag_name (i := 3) sc_Desk_say.nd rfl (.inl rfl)) ags_nil))), ?_⟩
  refine AS.ro (ρ' := [some (.ref p), some (.str x), some (.str w), some (.fz ps), none, none]) ?_
  refine as_if (at_eqS  (av_var (i := 2) rfl (.inl rfl) rfl) av_str) (fun hb => ?_) (fun hb => as_end ?_)
  · have hb : w = "curve" := of_decide_eq_true hb
    subst hb
    rcases hf with ⟨_, n, row, rfl⟩ | ⟨h9, _⟩
    · refine as_ret (ae_mt (ok_Desk_put T) T.l_Desk.c (hr.mono (by omega))  (av_var (i := 0) rfl (.inl rfl) rfl) h1 rfl (AVs.aes (avs_c (AV.is (av_ixN (f := id) D.non (AV.is  (av_var (i := 3) rfl (.inl rfl) rfl) (show _ = D.fz ([D.str n, fzs pt row].map id) from rfl)) av_int (n := 0) rfl (by simp)) (show _ = D.str n from rfl)) (avs_c (AV.is (av_ixN (f := id) D.non (AV.is  (av_var (i := 3) rfl (.inl rfl) rfl) (show _ = D.fz ([D.str n, fzs pt row].map id) from rfl)) av_int (n := 1) rfl (by simp)) (show _ = fzs pt row from rfl)) avs_nil)) ⟨p, b, bk, n, row, rfl, hD, by omega, ?_⟩))
      rw [putB_A]
      exact hc rfl n row rfl
    · exact absurd rfl h9
  have hb : w ≠ "curve" := of_decide_eq_false hb
  rcases hf with ⟨h9, _⟩ | ⟨_, sh, hsh, hpl, hnm⟩
  · exact absurd h9 hb
  have hmp : (bookA bk).map (·.1) = bk.map (·.1) := by unfold bookA; rw [List.map_map]; rfl
  refine as_if (at_eqS  (av_var (i := 2) rfl (.inl rfl) rfl) av_str) (fun hb2 => ?_) (fun hb2 => as_end ?_)
  · have hb2 : w = "names" := of_decide_eq_true hb2
    have hie : (bookA bk).isEmpty = bk.isEmpty := by unfold bookA; cases bk <;> rfl
    refine as_ret (AE.weak (ae_ifx (aet_neD hr (av_fld T.l_Desk.c T.n_Desk_book (av_var (i := 0) rfl (.inl rfl) rfl) h1 rfl) hD.bk fun A' x9 => ⟨fun hbk => ?_, fun hbk => ?_⟩)))
    · have hbk : bk.isEmpty = false := by
        rw [hie] at hbk
        simpa using hbk
      have h1' := x9 _ _ h1
      have hj := sum_len (xs := srtN (bk.map (·.1))) (b := 1000) fun x hx => by
        obtain ⟨q, hq, rfl⟩ := List.mem_map.mp (srtN_mem hx)
        exact hbn q hq
      have hj2 := srtN_le (bk.map (·.1))
      rw [List.length_map] at hj2
      have e1 : ((" " : Str)).length = 1 := rfl
      refine AV.ae (av_join (ys := srtN (bk.map (·.1))) av_str (AV.is (av_sortedN rfl rfl T.m_sorted (av_fld T.l_Desk.c T.n_Desk_book  (av_var (i := 0) rfl (.inl rfl) rfl) h1' rfl) (x9 _ _ hD.bk) (by unfold bookA; rw [List.length_map]; exact hbl)) (by rw [hmp])) IsL.fz (by rw [e1]; omega)) ⟨A, x9, ?_⟩
      have := hn hb2
      rw [hbk] at this
      exact this
    · have hbk : bk.isEmpty = true := by
        rw [hie] at hbk
        simpa using hbk
      refine AV.ae av_str ⟨A, x9, ?_⟩
      have := hn hb2
      rw [hbk] at this
      exact this
  have hb2 : w ≠ "names" := of_decide_eq_false hb2
  obtain ⟨hu, hk⟩ := ho hb hb2 sh hsh
  obtain ⟨hs0, hs1⟩ := shapes_first hsh hb2
  have hs10 := shapes_small hsh
  refine as_cons (a1_for hp rfl (ai_rng rfl T.m_range (av_lenD rfl T.m_len (AV.is (av_var (i := 3) rfl (.inl rfl) rfl) (fz_id ps)) IsL.fz) (by omega) (by omega) ⟨fun i ρ A' => ∃ (y : Option D), ρ = [some (.ref p), some (.str x), some (.str w), some (.fz ps), y, none] ∧ A = A' ∧ (∀ j, j < i → sh.cps.getD j 0 = 110 → ∃ m row, ps.getD j .non = .str m ∧ lkB bk m = some row), ⟨_, rfl, rfl, fun j hj => absurd hj (Nat.not_lt_zero _)⟩, fun i ρ A' hle hI => trivial, fun i ρ A' hi hI => ⟨_, _, (ag_name (i := 4) sc_Desk_say.nd rfl (.inl rfl)), ?_⟩, fun ρ A' hI => ?_⟩))
  · skip
    obtain ⟨y, rfl, rfl, hd9⟩ := hI
    have hi9 : i < ps.length := by omega
    have hix : sh.cps[((i : Int)).toNat]? = some (sh.cps.getD i 0) := by
      rw [Int.toNat_natCast, Array.getD_eq_getD_getElem?, Array.getElem?_eq_getElem (by omega)]
      rfl
    refine AS.ro (ρ' := [some (.ref p), some (.str x), some (.str w), some (.fz ps), some (.int (i : Int)), none]) ?_
    by_cases h110 : sh.cps.getD i 0 = 110
    · obtain ⟨m, hm, hmN⟩ := hnm i hi9 h110
      refine as_if (AW.at (aw_and (AT.is (at_eqS (av_ixS (av_ixKd TW.kd_SHAPES (av_glob rfl T.g_SHAPES (v := .ref T.c_SHAPES) rfl (fun _ => .ref _)) (av_var (i := 2) rfl (.inl rfl) rfl) hsh) (av_var (i := 4) rfl (.inl rfl) rfl) (by omega) (by omega) hix) av_str) (show _ = true by rw [h110]; rfl)) fun _ => aw_and1 (at_notInS hr (AV.is (av_ixDN (f := id) D.non (AV.is (av_var (i := 3) rfl (.inl rfl) rfl) (fz_id ps)) IsL.fz  (av_var (i := 4) rfl (.inl rfl) rfl) (n := i) rfl hi9) (show _ = D.str m from hm))  (av_fld T.l_Desk.c T.n_Desk_book (av_var (i := 0) rfl (.inl rfl) rfl) h1 rfl) hD.bk))) (fun hb9 => ?_) (fun hb9 => as_end ?_)
      · rw [lkB_A] at hb9
        refine as_cons (a1_raiseF T.e_NoName rfl htk rfl (hu fun K => ?_))
        obtain ⟨m', row, e1, e2⟩ := K i hi9 h110
        rw [hm] at e1
        cases e1
        rw [e2] at hb9
        simp at hb9
      · rw [lkB_A] at hb9
        refine as_nil ⟨_, rfl, rfl, fun j hj h9 => ?_⟩
        rcases Nat.lt_succ_iff_lt_or_eq.mp hj with hj | rfl
        · exact hd9 j hj h9
        · cases hlk : lkB bk m with
          | none => rw [hlk] at hb9; simp at hb9
          | some row => exact ⟨m, row, hm, hlk⟩
    · refine as_if (bb := false) (AW.at (aw_and (b1 := false) (b2 := true) (AT.is (at_eqS (av_ixS (av_ixKd TW.kd_SHAPES (av_glob rfl T.g_SHAPES (v := .ref T.c_SHAPES) rfl (fun _ => .ref _)) (av_var (i := 2) rfl (.inl rfl) rfl) hsh) (av_var (i := 4) rfl (.inl rfl) rfl) (by omega) (by omega) hix) av_str) (decide_eq_false fun e => h110 (sign_eq.mp e))) fun h => nomatch h)) (fun h => nomatch h) (fun _ => as_end ?_)
      refine as_nil ⟨_, rfl, rfl, fun j hj h9 => ?_⟩
      rcases Nat.lt_succ_iff_lt_or_eq.mp hj with hj | rfl
      · exact hd9 j hj h9
      · exact absurd h9 h110
  obtain ⟨y9, rfl, rfl, hd9⟩ := hI
  have hKn : Knw bk sh ps := fun i hi h9 => hd9 i (by rw [Int.toNat_natCast]; exact hi) h9
  obtain ⟨n, row, hn0, hlk⟩ := hKn 0 (by omega) hs1
  obtain ⟨k4, kA, kH⟩ := hk hKn n row hn0 hlk
  refine as_set (i := 5) sc_Desk_say.nd rfl (.inl rfl) (AV.ae (av_ixS' hr  (av_fld T.l_Desk.c T.n_Desk_book (av_var (i := 0) rfl (.inl rfl) rfl) h1 rfl) (AV.is (av_ixN (f := id) D.non (AV.is (av_var (i := 3) rfl (.inl rfl) rfl) (fz_id ps)) av_int (n := 0) rfl (by omega)) (show _ = D.str n from hn0)) hD.bk (d := fzs pt row) (by rw [lkB_A, hlk]; rfl)) ?_)
  refine AS.ro (ρ' := [some (.ref p), some (.str x), some (.str w), some (.fz ps), y9, some (fzs pt row)]) ?_
  refine as_if (at_inTs  (av_var (i := 2) rfl (.inl rfl) rfl) (AV.is (av_tup (avs_c av_str (avs_c av_str (avs_c av_str (avs_c av_str avs_nil))))) (show _ = D.tup (w4.map D.str) from rfl))) (fun hb4 => ?_) (fun hb4 => as_end ?_)
  · have hb4 : w ∈ w4 := of_decide_eq_true hb4
    obtain ⟨hs2, hs3⟩ := shapes_second hsh hb4
    obtain ⟨n2, row2, hn2, hlk2⟩ := hKn 1 (by omega) hs3
    exact as_cons (a1_retx (aex_mt FC htk T.l_Desk.c hr  (av_var (i := 0) rfl (.inl rfl) rfl) h1 rfl (AVs.aes (avs_c  (av_var (i := 2) rfl (.inl rfl) rfl) (avs_c  (av_var (i := 5) rfl (.inl rfl) rfl) (avs_c (av_ixS' hr  (av_fld T.l_Desk.c T.n_Desk_book (av_var (i := 0) rfl (.inl rfl) rfl) h1 rfl) (AV.is (av_ixN (f := id) D.non (AV.is (av_var (i := 3) rfl (.inl rfl) rfl) (fz_id ps)) av_int (n := 1) rfl (by omega)) (show _ = D.str n2 from hn2)) hD.bk (d := fzs pt row2) (by rw [lkB_A, hlk2]; rfl)) (avs_c (av_ixB (f := id) D.non (AV.is (av_var (i := 3) rfl (.inl rfl) rfl) (fz_id ps)) (av_neg av_int) (n := 1) rfl (by decide) (by omega)) avs_nil)))) (k4 hb4 n2 row2 hn2 hlk2))))
  have hb4 : w ∉ w4 := of_decide_eq_false hb4
  refine as_if (at_inTs  (av_var (i := 2) rfl (.inl rfl) rfl) (AV.is (av_tup (avs_c av_str (avs_c av_str (avs_c av_str (avs_c av_str avs_nil))))) (show _ = D.tup (wA.map D.str) from rfl))) (fun hb5 => ?_) (fun hb5 => as_end ?_)
  · have hb5 : w ∈ wA := of_decide_eq_true hb5
    exact as_cons (a1_retx (aex_mt FA htk T.l_Desk.c hr  (av_var (i := 0) rfl (.inl rfl) rfl) h1 rfl (AVs.aes (avs_c  (av_var (i := 2) rfl (.inl rfl) rfl) (avs_c  (av_var (i := 5) rfl (.inl rfl) rfl) (avs_c  (av_var (i := 3) rfl (.inl rfl) rfl) avs_nil))) (kA hb5))))
  have hb5 : w ∉ wA := of_decide_eq_false hb5
  exact as_cons (a1_retx (aex_mt FH htk T.l_Desk.c hr  (av_var (i := 0) rfl (.inl rfl) rfl) h1 rfl (AVs.aes (avs_c  (av_var (i := 2) rfl (.inl rfl) rfl) (avs_c  (av_var (i := 5) rfl (.inl rfl) rfl) (avs_c  (av_var (i := 3) rfl (.inl rfl) rfl) avs_nil))) (kH hb4 hb5))))
def ct_plus : Ct := fun ds A k _ => ∃ (p q : Rat) (m n : Nat), ds = [sh p, sh q] ∧ Sz m p ∧ Sz n q ∧ m + n ≤ 9000 ∧ k (sh (p + q)) A
theorem ok_plus (T : Txt K mg) : Fn P w K mg base "plus" 3 ct_plus := by
  refine fn_mk T.d_plus sc_plus (fun ds A k e h => ?_) fun f cdv A0 outer s H E hr hp htk ds A kk ee h => ?_
  · obtain ⟨p, q, m, n, rfl, _⟩ := h; rfl
  obtain ⟨p, q, m, n, rfl, hp', hq', hmn, hk⟩ := h
  refine as_retv (av_call (d := sh (p + q)) (ok_share T) (hr.mono (by decide)) rfl (avs_cons (av_add (av_mul (av_ixT (av_var (i := 0) rfl (.inl rfl) rfl) av_int rfl) (av_ixT (av_var (i := 1) rfl (.inl rfl) rfl) av_int rfl) (mulx hp'.num hq'.den (by omega))) (av_mul (av_ixT (av_var (i := 1) rfl (.inl rfl) rfl) av_int rfl) (av_ixT (av_var (i := 0) rfl (.inl rfl) rfl) av_int rfl) (mulx hq'.num hp'.den (by omega)))) (avs_cons (av_mul (av_ixT (av_var (i := 0) rfl (.inl rfl) rfl) av_int rfl) (av_ixT (av_var (i := 1) rfl (.inl rfl) rfl) av_int rfl) (mulx hp'.den hq'.den (by omega))) avs_nil))
    ⟨_, _, rfl, fun z => absurd z (den2 p q), fun _ => ⟨bt_le (bt_mul hp'.den hq'.den) hmn, by rw [add_eq], Ext.refl _⟩⟩) hk
def ct_times : Ct := fun ds A k _ => ∃ (p q : Rat) (m n : Nat), ds = [sh p, sh q] ∧ Sz m p ∧ Sz n q ∧ m + n ≤ 9000 ∧ k (sh (p * q)) A
theorem ok_times (T : Txt K mg) : Fn P w K mg base "times" 3 ct_times := by
  refine fn_mk T.d_times sc_times (fun ds A k e h => ?_) fun f cdv A0 outer s H E hr hp htk ds A kk ee h => ?_
  · obtain ⟨p, q, m, n, rfl, _⟩ := h; rfl
  obtain ⟨p, q, m, n, rfl, hp', hq', hmn, hk⟩ := h
  refine as_retv (av_call (d := sh (p * q)) (ok_share T) (hr.mono (by decide)) rfl (avs_cons (av_mul (av_ixT (av_var (i := 0) rfl (.inl rfl) rfl) av_int rfl) (av_ixT (av_var (i := 1) rfl (.inl rfl) rfl) av_int rfl) (mulx hp'.num hq'.num (by omega))) (avs_cons (av_mul (av_ixT (av_var (i := 0) rfl (.inl rfl) rfl) av_int rfl) (av_ixT (av_var (i := 1) rfl (.inl rfl) rfl) av_int rfl) (mulx hp'.den hq'.den (by omega))) avs_nil))
    ⟨_, _, rfl, fun z => absurd z (den2 p q), fun _ => ⟨bt_le (bt_mul hp'.den hq'.den) hmn, by rw [mul_eq], Ext.refl _⟩⟩) hk
abbrev Ip := Int × Int
abbrev ip (z : Ip) : D := .tup [.int z.1, .int z.2]
def itC (v : Int) : Nat → Int
  | 0 => v
  | k + 1 => itC v k * 48271 % 2147483647
def stC (c : Int) (k : Nat) : Int := itC (1 + c % 2147483646) (k + 3)
theorem itC_bd (v : Int) (k : Nat) : 0 ≤ itC v (k + 1) ∧ itC v (k + 1) < 2147483647 := by
  show 0 ≤ itC v k * 48271 % 2147483647 ∧ itC v k * 48271 % 2147483647 < 2147483647
  omega
theorem stC_bd (c : Int) (k : Nat) : 0 ≤ stC c k ∧ stC c k < 2147483647 := itC_bd _ _
abbrev Wy := Int × Int × Ip × Ip
def wayC (c : Int) : Wy := (([1, 1, 2, 3, 6, 12, 8, 10 ^ (9 : Int).toNat + 7] : List Int).getD (stC c 0 % 8).toNat 0, stC c 3 % 6, (stC c 1 % 41 - 20, stC c 2 % 41 - 20), (stC c 4 % 7 - 3, stC c 5 % 7 - 3))
structure WyOk (W : Wy) : Prop where
  b0 : 0 < W.1
  b1 : W.1 ≤ 1000000007
  s1 : -20 ≤ W.2.2.1.1 ∧ W.2.2.1.1 ≤ 20
  s2 : -20 ≤ W.2.2.1.2 ∧ W.2.2.1.2 ≤ 20
  t1 : -3 ≤ W.2.2.2.1 ∧ W.2.2.2.1 ≤ 3
  t2 : -3 ≤ W.2.2.2.2 ∧ W.2.2.2.2 ≤ 3
theorem wayC_ok (c : Int) : WyOk (wayC c) := by
  have h0 : 0 ≤ stC c 0 % 8 ∧ stC c 0 % 8 < 8 := by omega
  have hb : 0 < (wayC c).1 ∧ (wayC c).1 ≤ 1000000007 := by
    show 0 < ([1, 1, 2, 3, 6, 12, 8, 10 ^ (9 : Int).toNat + 7] : List Int).getD (stC c 0 % 8).toNat 0 ∧ ([1, 1, 2, 3, 6, 12, 8, 10 ^ (9 : Int).toNat + 7] : List Int).getD (stC c 0 % 8).toNat 0 ≤ 1000000007
    have hk : (stC c 0 % 8).toNat < 8 := by omega
    generalize (stC c 0 % 8).toNat = k at hk
    match k, hk with
    | 0, _ | 1, _ | 2, _ | 3, _ | 4, _ | 5, _ | 6, _ | 7, _ => decide
  refine ⟨hb.1, hb.2, ?_, ?_, ?_, ?_⟩
  · show -20 ≤ stC c 1 % 41 - 20 ∧ stC c 1 % 41 - 20 ≤ 20; omega
  · show -20 ≤ stC c 2 % 41 - 20 ∧ stC c 2 % 41 - 20 ≤ 20; omega
  · show -3 ≤ stC c 4 % 7 - 3 ∧ stC c 4 % 7 - 3 ≤ 3; omega
  · show -3 ≤ stC c 5 % 7 - 3 ∧ stC c 5 % 7 - 3 ≤ 3; omega
def placeC (W : Wy) (c : Int) : Ip :=
  if W.2.1 = 1 then (c % 10 ^ (30 : Int).toNat - 5 * 10 ^ (29 : Int).toNat, c * stC c 0 % 10 ^ (30 : Int).toNat - 5 * 10 ^ (29 : Int).toNat)
  else if W.2.1 = 2 then (W.2.2.1.1 + W.2.2.2.1 * (stC c 0 % 9), W.2.2.1.2 + W.2.2.2.2 * (stC c 0 % 9))
  else if W.2.1 = 3 then (W.2.2.1.1 + stC c 0 % 2 * W.2.2.2.1, W.2.2.1.2)
  else if W.2.1 = 4 then (W.2.2.1.1 * 10 ^ (25 : Int).toNat + stC c 0 % 3, W.2.2.1.2 * 10 ^ (25 : Int).toNat + stC c 1 % 3)
  else if c > 1680 then (c % 41 - 20, c / 41 % 41 - 20)
  else (stC c 0 % 7 - 3, stC c 1 % 7 - 3)
theorem placeC_bd {W : Wy} (h : WyOk W) (c : Int) : (placeC W c).1.natAbs < 2 ^ 101 ∧ (placeC W c).2.natAbs < 2 ^ 101 := by
  have w1 := h.s1
  have w2 := h.s2
  have w3 := h.t1
  have w4 := h.t2
  have h0 := stC_bd c 0
  have h1 := stC_bd c 1
  have e30 : (10 : Int) ^ (30 : Int).toNat = 1000000000000000000000000000000 := by decide
  have e29 : (10 : Int) ^ (29 : Int).toNat = 100000000000000000000000000000 := by decide
  have e25 : (10 : Int) ^ (25 : Int).toNat = 10000000000000000000000000 := by decide
  have e101 : (2 : Nat) ^ 101 = 2535301200456458802993406410752 := by decide
  rw [e101]
  unfold placeC
  rw [e30, e29, e25]
  have sm : ∀ a b : Int, -3 ≤ a ∧ a ≤ 3 → 0 ≤ b ∧ b ≤ 9 → -27 ≤ a * b ∧ a * b ≤ 27 := by
    intro a b ha hb
    have : b = 0 ∨ b = 1 ∨ b = 2 ∨ b = 3 ∨ b = 4 ∨ b = 5 ∨ b = 6 ∨ b = 7 ∨ b = 8 ∨ b = 9 := by omega
    rcases this with r | r | r | r | r | r | r | r | r | r <;> subst r <;> omega
  have m1 := sm _ (stC c 0 % 9) w3 (by omega)
  have m2 := sm _ (stC c 0 % 9) w4 (by omega)
  have m3 := sm _ (stC c 0 % 2) w3 (by omega)
  split
  · dsimp only; omega
  split
  · dsimp only; omega
  split
  · dsimp only; rw [Int.mul_comm (stC c 0 % 2)]; omega
  split
  · dsimp only; omega
  split
  · dsimp only; omega
  · dsimp only; omega
def ptC (b : Int) (z : Ip) : Pt := ((z.1 : Rat) / (b : Rat), (z.2 : Rat) / (b : Rat))
def ct_show_share : Ct := fun ds A k _ => ∃ (q : Rat) (m : Nat), ds = [sh q] ∧ (Sz m q) ∧ (m ≤ 1900) ∧ (0 < m) ∧ k (.str (shT q)) A
theorem ok_show_share (T : Txt K mg) : Fn P w K mg base "show_share" 1 ct_show_share := by
  refine fn_mk T.d_show_share sc_show_share (fun ds A k e h => ?_) fun f cdv A0 outer s H E hr hp htk ds A kk ee h => ?_
  · obtain ⟨q, m, rfl, _⟩ := h; rfl
  obtain ⟨q, m, rfl, hq, hm, hm0, hk⟩ := h
  have h1 := wl_len hm0 hq.num
  have h2 := wl_len hm0 hq.den
  rw [← tl_tx, ← TL.len_tl] at h1 h2
  have h3 : (tx q.num ++ "/").length = (tx q.num).length + 1 := by rw [TL.len_tl, TL.tl_append, List.length_append, ← TL.len_tl]; rfl
  refine as_if (at_eq (av_ixT (av_var (i := 0) rfl (.inl rfl) rfl) av_int rfl) av_int) (fun hb => ?_) (fun hb => as_end ?_)
  · have hb : q.den = 1 := by have := of_decide_eq_true hb; omega
    rw [shT, if_pos hb] at hk
    refine as_retv (av_strI rfl T.m_str (av_ixT (av_var (i := 0) rfl (.inl rfl) rfl) av_int rfl) (log_lt hq.num (by omega) hm0)) hk
  have hb : ¬ q.den = 1 := by have := of_decide_eq_false hb; omega
  rw [shT, if_neg hb] at hk
  refine as_retv (av_catS (av_catS (av_strI rfl T.m_str (av_ixT (av_var (i := 0) rfl (.inl rfl) rfl) av_int rfl) (log_lt hq.num (by omega) hm0)) av_str (Nat.le_of_lt (small_sz (show (tx q.num).length + 1 < 2000000 by omega)))) (av_strI rfl T.m_str (av_ixT (av_var (i := 0) rfl (.inl rfl) rfl) av_int rfl) (log_lt hq.den (by omega) hm0)) (Nat.le_of_lt (small_sz (by rw [h3]; omega)))) hk
def ct_show_point : Ct := fun ds A k _ => ∃ (p : Pt) (m : Nat), ds = [pt p] ∧ (SzP m p) ∧ (m ≤ 1900) ∧ (0 < m) ∧ k (.str (ptT p)) A
theorem ok_show_point (T : Txt K mg) : Fn P w K mg base "show_point" 2 ct_show_point := by
  refine fn_mk T.d_show_point sc_show_point (fun ds A k e h => ?_) fun f cdv A0 outer s H E hr hp htk ds A kk ee h => ?_
  · obtain ⟨p, m, rfl, _⟩ := h; rfl
  obtain ⟨p, m, rfl, hq, hm, hm0, hk⟩ := h
  have h1 := shT_len hm0 hq.1
  have h2 := shT_len hm0 hq.2
  have h3 : (shT p.1 ++ ",").length = (shT p.1).length + 1 := by rw [TL.len_tl, TL.tl_append, List.length_append, ← TL.len_tl]; rfl
  refine as_retv (av_catS (av_catS (AE.av (ae_call (ok_show_share T) (hr.mono (by decide)) rfl (AVs.aes (avs_c (av_ixT (av_var (i := 0) rfl (.inl rfl) rfl) av_int rfl) avs_nil) ⟨_, m, rfl, hq.1, hm, hm0, ⟨rfl, Ext.refl _⟩⟩))) av_str (Nat.le_of_lt (small_sz (show (shT p.1).length + 1 < 2000000 by omega)))) (AE.av (ae_call (ok_show_share T) (hr.mono (by decide)) rfl (AVs.aes (avs_c (av_ixT (av_var (i := 0) rfl (.inl rfl) rfl) av_int rfl) avs_nil) ⟨_, m, rfl, hq.2, hm, hm0, ⟨rfl, Ext.refl _⟩⟩))) (Nat.le_of_lt (small_sz (by rw [h3]; omega)))) hk
def ct_show_curve : Ct := fun ds A k _ => ∃ (d_row : D) (row : List Pt) (m : Nat), ds = [d_row] ∧ (IsL A d_row (row.map pt)) ∧ (∀ p ∈ row, SzP m p) ∧ (m ≤ 1900) ∧ (0 < m) ∧ (row.length ≤ 64) ∧ k (.str (cvT row)) A
theorem ok_show_curve (T : Txt K mg) : Fn P w K mg base "show_curve" 3 ct_show_curve := by
  refine fn_mk T.d_show_curve sc_show_curve (fun ds A k e h => ?_) fun f cdv A0 outer s H E hr hp htk ds A kk ee h => ?_
  · obtain ⟨d_row, row, m, rfl, _⟩ := h; rfl
  obtain ⟨d_row, row, m, rfl, hL_row, hz, hm, hm0, hl, hk⟩ := h
  have hln : ∀ x ∈ row.map ptT, x.length ≤ 7700 := fun x hx => by
    obtain ⟨p, hp, rfl⟩ := List.mem_map.mp hx
    have := ptT_len hm0 (hz p hp)
    omega
  have hsm := sum_len hln
  rw [List.length_map] at hsm
  refine as_retv (av_join (ys := row.map ptT) av_str (AV.is (av_lcF rfl sc_show_curve.nd (blkOk_by rfl) (own := [("seat", 1)]) (is := [1]) (f := D.str) (F := fun i => ptT (gp row i)) (by decide) (ai_D ((0, 0) : Pt) (f := pt) (av_var (i := 0) rfl (.inl rfl) rfl) (by walk_at "il") ⟨rfl, rfl, (Nat.le_of_lt (small1000 (by omega))), (fun _ x => (by walk_at "ilx")), fun i hi => ⟨_, fun s H C cl fp => ⟨(ag_name (i := 1) sc_show_curve.nd rfl (.inl rfl)), fun A' x => (AE.av (ae_call (ok_show_point T) (hr.mono (by decide)) rfl (AVs.aes (avs_c (av_var (i := 1) rfl (.inl rfl) rfl) avs_nil) ⟨_, m, rfl, hz _ (gp_mem hi), hm, hm0, ⟨rfl, Ext.refl _⟩⟩)))⟩⟩⟩)) (show _ = D.fz ((row.map ptT).map D.str) by rw [← map_range_get row ((0, 0) : Pt) ptT]; rfl)) IsL.fz (by rw [List.length_map]; have e1 : ((" " : Str)).length = 1 := rfl; rw [e1]; omega)) hk
def ct_Desk_asked : Ct := fun ds A k _ => ∃ (d0 : D) (row : List Pt) (ps : List D), ds = [d0, .str "tell", fzs pt row, .fz ps] ∧ (∀ p ∈ row, SzP 200 p) ∧ row.length ≤ 12 ∧ k (.str (cvT row)) A
theorem ok_Desk_asked (T : Txt K mg) : Mt P w K mg base T.C_Desk "asked" 9 ct_Desk_asked := by
  refine mt_mk T.d_Desk_asked sc_Desk_asked (fun ds A k e h => ?_) fun f cdv A0 outer s H E hr hp htk ds A kk ee h => ?_
  · obtain ⟨d0, row, ps, rfl, _⟩ := h; rfl
  obtain ⟨d0, row, ps, rfl, hz, h12, hk⟩ := h
  refine as_if (bb := true) (AT.is (at_eqS (av_var (i := 1) rfl (.inl rfl) rfl) av_str) (by rfl)) (fun _ => ?_) (fun h => nomatch h)
  exact as_retv (AE.av (ae_call (ok_show_curve T) (hr.mono (by decide)) rfl (AVs.aes (avs_c (av_var (i := 2) rfl (.inl rfl) rfl) avs_nil) ⟨_, row, 200, rfl, IsL.fz, hz, by decide, by decide, by omega, ⟨rfl, Ext.refl _⟩⟩))) hk
def ct_raised (C : Addr) : Ct := fun ds A k e => ∃ (row : List Pt), ds = [fzs pt row] ∧ row.length = 12 ∧ e (.ref C) A
theorem ok_raised (T : Txt K mg) : Fn P w K mg base "raised" 1 (ct_raised T.C_TooMany) := by
  refine fn_mk T.d_raised sc_raised (fun ds A k e h => ?_) fun f cdv A0 outer s H E hr hp htk ds A kk ee h => ?_
  · obtain ⟨row, rfl, _⟩ := h; rfl
  obtain ⟨row, rfl, hl, he⟩ := h
  refine as_set (i := 1) sc_raised.nd rfl (.inl rfl) (AV.ae (av_lenD (f := pt) rfl T.m_len (av_var (i := 0) rfl (.inl rfl) rfl) IsL.fz) ?_)
  exact as_if (at_eq (av_var (i := 1) rfl (.inl rfl) rfl) (av_globI rfl T.g_MOST_SEATS)) (fun hb => as_cons (a1_raiseF T.e_TooMany rfl htk rfl he)) fun hb => absurd (show ((row.length : Nat) : Int) = 12 by omega) (of_decide_eq_false hb)
def ct__law_cell_at : Ct := fun ds A k _ => ∃ (ns : List Int) (i : Int), ds = [.cl (ns.map D.int), .int i] ∧ 0 ≤ i ∧ k (.int (cellM ns i)) A
theorem ok__law_cell_at (T : Txt K mg) : Fn P w K mg base "_law_cell_at" 1 ct__law_cell_at := by
  refine fn_mk T.d__law_cell_at sc__law_cell_at (fun ds A k e h => ?_) fun f cdv A0 outer s H E hr hp htk ds A kk ee h => ?_
  · obtain ⟨ns, i, rfl, _⟩ := h; rfl
  obtain ⟨ns, i, rfl, h0, hk⟩ := h
  refine as_if (at_lt (av_var (i := 1) rfl (.inl rfl) rfl) (av_lenL rfl T.m_len (av_var (i := 0) rfl (.inl rfl) rfl) IsL.cl)) (fun hb => ?_) (fun hb => ?_)
  · have hlt : i < ((ns.map D.int).length : Nat) := of_decide_eq_true hb
    rw [List.length_map] at hlt
    exact as_retv (av_ixL (av_var (i := 0) rfl (.inl rfl) rfl) (av_var (i := 1) rfl (.inl rfl) rfl) IsL.cl (atZ h0 hlt)) hk
  · refine as_end ?_
    have hlt : ¬ i < ((ns.map D.int).length : Nat) := of_decide_eq_false hb
    rw [List.length_map] at hlt
    have e : cellM ns i = 0 := by
      unfold cellM
      rw [List.getD_eq_getElem?_getD, List.getElem?_eq_none (by omega)]
      rfl
    rw [e] at hk
    exact as_retv av_int hk
def ct__law_stream : Ct := fun ds A k _ => ∃ (c : Int) (m : Nat), ds = [.int c, .int (m : Int)] ∧ m ≤ 60 ∧ k (.fz (((List.range m).map (stC c)).map D.int)) A
theorem ok__law_stream (T : Txt K mg) : Fn P w K mg base "_law_stream" 1 ct__law_stream := by
  refine fn_mk T.d__law_stream sc__law_stream (fun ds A k e h => ?_) fun f cdv A0 outer s H E hr hp htk ds A kk ee h => ?_
  · obtain ⟨c, m, rfl, _⟩ := h; rfl
  obtain ⟨c, m, rfl, hm, hk⟩ := h
  refine as_setv (f := D.int) (i := 2) sc__law_stream.nd rfl (.inl rfl) (av_add av_int (av_mod (av_var (i := 0) rfl (.inl rfl) rfl) av_int (by walk_at "sz"))) fun v0 hv0 => ?_
  refine as_set (i := 3) sc__law_stream.nd rfl (.inl rfl) (AL.ae (al_lst (ds := []) avs_nil) fun q hq => ?_)
  refine as_cons (a1_for hp rfl (ai_rng rfl T.m_range (av_add (av_var (i := 1) rfl (.inl rfl) rfl) av_int) (by walk_at "om") (by walk_at "om") ⟨fun i ρ A' => ∃ (y : Option D) (v : Int), ρ = [some (.int c), some (.int (m : Int)), some (.int v), some (.ref q), y] ∧ A' = aupd A q (.lst (((List.range i).map fun k => itC v0 (k + 1)).map D.int)) ∧ (v = itC v0 i), ⟨_, v0, rfl, rfl, rfl⟩, fun i ρ A' hle hI => trivial, fun i ρ A' hi hI => ⟨_, _, (ag_name (i := 4) sc__law_stream.nd rfl (.inl rfl)), ?_⟩, fun ρ A' hI => ?_⟩))
  · skip
    obtain ⟨y, v, rfl, rfl, hv⟩ := hI
    have hi' : i < m + 2 := by omega
    refine as_set (i := 2) sc__law_stream.nd rfl (.inl rfl) (AV.ae (av_mod (av_mulS (av_var (i := 2) rfl (.inl rfl) rfl) av_int (.inr (by decide))) av_int (by walk_at "sz")) ?_)
    rw [hv]
    refine as_cons (a1_expr (ae_append (AV.ae (av_var (i := 3) rfl (.inl rfl) rfl) ⟨_, rfl, ⟨_, aupd_same⟩, AV.ae (av_var (i := 2) rfl (.inl rfl) rfl) ⟨_, aupd_same, (by simp only [List.length_map, List.length_range]; exact small1000 (by omega)), ?_⟩⟩)))
    refine as_nil ⟨_, (itC v0 (i + 1)), rfl, ?hp2, rfl⟩
    rw [aupd_aupd, map_snoc, List.range_succ, List.map_append (f := fun k => itC v0 (k + 1))]
    rfl
  obtain ⟨y, v, rfl, rfl, hv⟩ := hI
  rw [show ((m : Int) + 2).toNat = m + 2 by omega]
  refine as_fz 3 rfl hq ?_
  refine as_retv (av_slF (av_var (i := 3) rfl (.inl rfl) rfl) IsL.fz (lo' := (some ((2 : Nat) : Int))) (hi' := none) av_int trivial) ?_
  have e : ((List.range (m + 2)).map fun k => itC v0 (k + 1)).drop 2 = (List.range m).map (stC c) := by
    refine List.ext_getElem (by simp) fun k h1 h2 => ?_
    simp only [List.getElem_drop, List.getElem_map, List.getElem_range]
    unfold stC
    rw [hv0, show 2 + k + 1 = k + 3 by omega]
  rw [cutL_drop, e]
  exact hk
def strL (l : List Nat) : Str := ⟨l.toArray⟩
theorem tl_strL (l : List Nat) : TL.tl (strL l) = l := rfl
theorem len_strL (l : List Nat) : (strL l).length = l.length := TL.len_tl _
theorem strL_tl (x : Str) : strL (TL.tl x) = x := TL.ext_tl rfl
theorem strL_snoc (l : List Nat) (c : Nat) : strL l ++ (⟨#[c]⟩ : Str) = strL (l ++ [c]) := TL.ext_tl (by rw [TL.tl_append]; rfl)
theorem joinL_nil : ∀ xs : List (List Nat), TL.joinL [] xs = xs.flatten
  | [] => rfl
  | [x] => by simp [TL.joinL]
  | x :: y :: r => by
    have ih := joinL_nil (y :: r)
    simp only [TL.joinL] at ih ⊢
    simp [ih]
theorem tl_cutT (x : Str) (n : Nat) : TL.tl (cutS x none (some (n : Int))) = (TL.tl x).take n := by
  show ((x.cps.toList.drop (HT.sIx x.length 0 none)).take (HT.sIx x.length x.length (some (n : Int)) - HT.sIx x.length 0 none)) = _
  have hl := TL.len_tl x
  rw [HT.sIx_nat, HT.sIx_none]
  show ((TL.tl x).drop 0).take (min n x.length - 0) = _
  rw [hl, List.drop_zero, Nat.sub_zero]
  by_cases h : n ≤ (TL.tl x).length
  · rw [Nat.min_eq_left h]
  · rw [Nat.min_eq_right (by omega), List.take_length, List.take_of_length_le (by omega)]
def sizC (c : Int) : Int := 1 + stC c 0 % 12
def atC (c : Int) : Int := stC c 1 % sizC c
def nmW (c : Int) : List Nat := (List.range 12).map fun j => 97 + (stC c (2 + j) % 26).toNat
def nmA (c : Int) (m k : Nat) : List Nat := (nmW c).take (k + 1 + (stC c 0 % (13 - (m : Int))).toNat)
def gB (c : Int) (k j : Nat) : Nat := 97 + ((stC c (2 + j) + if (j : Int) = atC c then (k : Int) else 0) % 26).toNat
def nmB (c : Int) (k : Nat) : List Nat := (List.range (sizC c).toNat).map (gB c k)
def nmOf (c : Int) (m k : Nat) : List Nat := if stC c 14 % 3 = 1 then nmA c m k else nmB c k
def namesC (c : Int) (m : Nat) : List Str := (List.range m).map fun k => strL (nmOf c m k)
theorem sizC_bd (c : Int) : 1 ≤ sizC c ∧ sizC c ≤ 12 := by unfold sizC; omega
theorem atC_bd (c : Int) : 0 ≤ atC c ∧ atC c < sizC c := by
  have := sizC_bd c
  exact ⟨Int.emod_nonneg _ (by omega), Int.emod_lt_of_pos _ (by omega)⟩
theorem nmOf_ok {c : Int} {m k : Nat} (hm : m ≤ 12) (hk : k < m) : NameL (nmOf c m k) := by
  unfold nmOf
  split
  · have h1 : 0 ≤ stC c 0 % (13 - (m : Int)) ∧ stC c 0 % (13 - (m : Int)) < 13 - (m : Int) := ⟨Int.emod_nonneg _ (by omega), Int.emod_lt_of_pos _ (by omega)⟩
    have hl : (nmA c m k).length = k + 1 + (stC c 0 % (13 - (m : Int))).toNat := by
      unfold nmA nmW
      rw [List.length_take, List.length_map, List.length_range]
      omega
    refine ⟨by omega, by omega, fun x hx => ?_⟩
    obtain ⟨j, _, rfl⟩ := List.mem_map.mp (List.mem_of_mem_take hx)
    omega
  · have h1 := sizC_bd c
    have hl : (nmB c k).length = (sizC c).toNat := by unfold nmB; simp
    refine ⟨by omega, by omega, fun x hx => ?_⟩
    obtain ⟨j, _, rfl⟩ := List.mem_map.mp hx
    unfold gB
    omega
theorem nmOf_inj {c : Int} {m k l : Nat} (hm : m ≤ 12) (hk : k < m) (hl : l < m) (e : nmOf c m k = nmOf c m l) : k = l := by
  unfold nmOf at e
  split at e
  · have h1 : 0 ≤ stC c 0 % (13 - (m : Int)) ∧ stC c 0 % (13 - (m : Int)) < 13 - (m : Int) := ⟨Int.emod_nonneg _ (by omega), Int.emod_lt_of_pos _ (by omega)⟩
    have e := congrArg List.length e
    unfold nmA nmW at e
    rw [List.length_take, List.length_take, List.length_map, List.length_range] at e
    omega
  · have h1 := sizC_bd c
    have h2 := atC_bd c
    have hj : (atC c).toNat < (sizC c).toNat := by omega
    have e : (nmB c k).getD (atC c).toNat 0 = (nmB c l).getD (atC c).toNat 0 := by rw [e]
    unfold nmB at e
    rw [List.getD_eq_getElem?_getD, List.getElem?_map, List.getElem?_range hj, List.getD_eq_getElem?_getD, List.getElem?_map, List.getElem?_range hj] at e
    have e : gB c k (atC c).toNat = gB c l (atC c).toNat := e
    unfold gB at e
    rw [if_pos (by omega), if_pos (by omega)] at e
    omega
theorem namesC_name {c : Int} {m : Nat} (hm : m ≤ 12) : ∀ x ∈ namesC c m, NameL (TL.tl x) := fun x hx => by
  obtain ⟨k, hk, rfl⟩ := List.mem_map.mp hx
  rw [tl_strL]
  exact nmOf_ok hm (List.mem_range.mp hk)
theorem namesC_nodup {c : Int} {m : Nat} (hm : m ≤ 12) : (namesC c m).Nodup := by
  unfold namesC List.Nodup
  rw [List.pairwise_map]
  refine List.Pairwise.imp_of_mem ?_ List.pairwise_lt_range
  intro a b ha hb hab e
  have e2 := congrArg TL.tl e
  rw [tl_strL, tl_strL] at e2
  have := nmOf_inj hm (List.mem_range.mp ha) (List.mem_range.mp hb) e2
  omega
theorem letter_ix : ∀ n : Nat, n < 26 → (("abcdefghijklmnopqrstuvwxyz" : Str)).cps[n]? = some (97 + n) := by decide
theorem letter_iz {z : Int} (h0 : 0 ≤ z) (h1 : z < 26) : (("abcdefghijklmnopqrstuvwxyz" : Str)).cps[z.toNat]? = some (97 + z.toNat) := letter_ix _ (by omega)
theorem row15 (c : Int) {i : Nat} (h : i < 15) : ((List.range 15).map (stC c)).getD i 0 = stC c i := by
  rw [List.getD_eq_getElem?_getD, List.getElem?_map, List.getElem?_range h]; rfl
theorem join_word (c : Int) : Str.join "" ((List.range 12).map fun j => (⟨#[97 + (stC c (2 + j) % 26).toNat]⟩ : Str)) = strL (nmW c) := TL.ext_tl (by
  rw [TL.tl_join, tl_strL]
  have e : TL.tl ("" : Str) = [] := rfl
  rw [e, joinL_nil, List.map_map]
  rfl)
def ct__law_names : Ct := fun ds A k _ => ∃ (c : Int) (m : Nat), ds = [.int c, .int (m : Int)] ∧ m ≤ 12 ∧ ∀ p, A p = none → k (.ref p) (aupd A p (.lst ((namesC c m).map D.str)))
theorem ok__law_names (T : Txt K mg) : Fn P w K mg base "_law_names" 2 ct__law_names := by
  refine fn_mk T.d__law_names sc__law_names (fun ds A k e h => ?_) fun f cdv A0 outer s H E hr hp htk ds A kk ee h => ?_
  · obtain ⟨c, m, rfl, _⟩ := h; rfl
  obtain ⟨c, m, rfl, hm, hk⟩ := h
  have hs := sizC_bd c
  have ha := atC_bd c
  have h13 : 0 ≤ stC c 0 % (13 - (m : Int)) ∧ stC c 0 % (13 - (m : Int)) < 13 - (m : Int) := ⟨Int.emod_nonneg _ (by omega), Int.emod_lt_of_pos _ (by omega)⟩
  refine as_set (i := 2) sc__law_names.nd rfl (.inr rfl) (AV.ae av_str ?_)
  refine as_set (i := 3) sc__law_names.nd rfl (.inr rfl) (AV.ae (AE.av (ae_call (ok__law_stream T) (hr.mono (by decide)) rfl (AVs.aes (avs_c (av_var (i := 0) rfl (.inl rfl) rfl) (avs_c av_int avs_nil)) ⟨_, 15, rfl, by decide, ⟨rfl, Ext.refl _⟩⟩))) ?_)
  refine as_set (i := 4) sc__law_names.nd rfl (.inl rfl) (AV.ae (AV.is (av_add av_int (av_mod (av_ixDN (f := D.int) (0 : Int) (av_var (i := 3) rfl (.inr (.inl rfl)) rfl) IsL.fz av_int (n := 0) rfl (by simp)) av_int (by decide))) (show _ = D.int (sizC c) from rfl)) ?_)
  refine as_set (i := 5) sc__law_names.nd rfl (.inl rfl) (AV.ae (AV.is (av_mod (av_ixDN (f := D.int) (0 : Int) (av_var (i := 3) rfl (.inr (.inl rfl)) rfl) IsL.fz av_int (n := 1) rfl (by simp)) (av_var (i := 4) rfl (.inl rfl) rfl) (by omega)) (show _ = D.int (atC c) from rfl)) ?_)
  refine AS.ro (ρ' := [some (.int c), some (.int (m : Int)), some (.str "abcdefghijklmnopqrstuvwxyz"), some (.fz (((List.range 15).map (stC c)).map D.int)), some (.int (sizC c)), some (.int (atC c)), none, none, none, none, none, none]) ?_
  refine as_if (at_eq (av_mod (av_ixDN (f := D.int) (0 : Int) (av_var (i := 3) rfl (.inr (.inl rfl)) rfl) IsL.fz av_int (n := 14) rfl (by simp)) av_int (by decide)) av_int) (fun hb => ?_) (fun hb => as_end ?_)
  · have hb : stC c 14 % 3 = 1 := of_decide_eq_true hb
    have hj12 : (((List.range 12).map fun j => (⟨#[97 + (stC c (2 + j) % 26).toNat]⟩ : Str)).map (·.length)).sum ≤ 12 * 1 := by
      have := sum_len (xs := (List.range 12).map fun j => (⟨#[97 + (stC c (2 + j) % 26).toNat]⟩ : Str)) (b := 1) fun x hx => by
        obtain ⟨j, _, rfl⟩ := List.mem_map.mp hx
        exact Nat.le_refl _
      simpa using this
    refine as_set (i := 6) sc__law_names.nd rfl (.inr rfl) (AV.ae (AV.is (av_join (ys := (List.range 12).map fun j => (⟨#[97 + (stC c (2 + j) % 26).toNat]⟩ : Str)) av_str (av_lcF rfl sc__law_names.nd (blkOk_by rfl) (own := [("_law_j", 10)]) (is := [10]) (f := D.str) (F := fun j => (⟨#[97 + (stC c (2 + j) % 26).toNat]⟩ : Str)) (by decide) (ai_rng rfl T.m_range av_int (by decide) (by decide) ⟨rfl, rfl, (Nat.le_of_ble_eq_true rfl), (fun _ x => trivial), fun j hj => ⟨_, fun s H C cl fp => ⟨(ag_name (i := 10) sc__law_names.nd rfl (.inl rfl)), fun A' x => by have hj : j < 12 := hj; exact (av_ixS (av_var (i := 2) rfl (.inr (.inl rfl)) rfl) (AV.is (av_mod (av_ixDN (f := D.int) (0 : Int) (av_var (i := 3) rfl (.inr (.inl rfl)) rfl) IsL.fz (av_add av_int (av_var (i := 10) rfl (.inl rfl) rfl)) (n := 2 + j) (by omega) (by simp; omega)) av_int (by decide)) (show _ = D.int (stC c (2 + j) % 26) by rw [row15 c (by omega)])) (Int.emod_nonneg _ (by decide)) (Int.lt_trans (Int.emod_lt_of_pos _ (by decide)) (by decide)) (letter_iz (Int.emod_nonneg _ (by decide)) (Int.emod_lt_of_pos _ (by decide))))⟩⟩⟩)) IsL.fz (by rw [List.length_map, List.length_range]; exact Nat.le_trans (Nat.add_le_add_right hj12 _) (by decide))) (show _ = D.str (strL (nmW c)) by rw [join_word])) ?_)
    refine AS.ro (ρ' := [some (.int c), some (.int (m : Int)), some (.str "abcdefghijklmnopqrstuvwxyz"), some (.fz (((List.range 15).map (stC c)).map D.int)), some (.int (sizC c)), some (.int (atC c)), some (.str (strL (nmW c))), none, none, none, none, none]) ?_
    refine as_ret (AL.ae (al_lcF rfl sc__law_names.nd (blkOk_by rfl) (own := [("_law_k", 8)]) (is := [8]) (f := D.str) (F := fun i => strL (nmA c m i)) (by decide) (ai_rng rfl T.m_range (av_var (i := 1) rfl (.inr (.inl rfl)) rfl) (by omega) (by omega) ⟨rfl, rfl, (Nat.le_of_lt (small1000 (by omega))), (fun _ x => trivial), fun i hi => ⟨_, fun s H C cl fp => ⟨(ag_name (i := 8) sc__law_names.nd rfl (.inl rfl)), fun A' x => by have hi : i < m := hi; exact (AV.is (av_slS (av_var (i := 6) rfl (.inr (.inl rfl)) rfl) (by rw [len_strL]; unfold nmW; rw [List.length_map, List.length_range]; exact Nat.le_of_ble_eq_true rfl) (lo' := none) (hi' := some ((i + 1 + (stC c 0 % (13 - (m : Int))).toNat : Nat) : Int)) trivial (AV.is (av_add (av_add (av_var (i := 8) rfl (.inl rfl) rfl) av_int) (av_mod (av_ixDN (f := D.int) (0 : Int) (av_var (i := 3) rfl (.inr (.inl rfl)) rfl) IsL.fz av_int (n := 0) rfl (by simp)) (av_sub av_int (av_var (i := 1) rfl (.inr (.inl rfl)) rfl)) (by omega))) (show D.int ((i : Int) + 1 + stC c 0 % (13 - (m : Int))) = _ by congr 1; omega))) (show _ = D.str (strL (nmA c m i)) by congr 1; exact TL.ext_tl (by rw [tl_cutT, tl_strL, tl_strL]; rfl)))⟩⟩⟩)) fun p hq => ?_)
    have e : namesC c m = (List.range m).map fun i => strL (nmA c m i) := List.map_congr_left fun i _ => by unfold nmOf; rw [if_pos hb]
    rw [e] at hk
    exact hk p hq
  have hb : ¬ stC c 14 % 3 = 1 := of_decide_eq_false hb
  refine as_set (i := 7) sc__law_names.nd rfl (.inl rfl) (AL.ae (al_lst (ds := ([] : List Str).map D.str) avs_nil) fun p hq => ?_)
  refine AS.ro (ρ' := [some (.int c), some (.int (m : Int)), some (.str "abcdefghijklmnopqrstuvwxyz"), some (.fz (((List.range 15).map (stC c)).map D.int)), some (.int (sizC c)), some (.int (atC c)), none, some (.ref p), none, none, none, none]) ?_
  refine as_cons (a1_for hp rfl (ai_rng rfl T.m_range (av_var (i := 1) rfl (.inr (.inl rfl)) rfl) (by omega) (by omega) ⟨fun i ρ A' => ∃ (y8 y9 y10 y11 : Option D), ρ = [some (.int c), some (.int (m : Int)), some (.str "abcdefghijklmnopqrstuvwxyz"), some (.fz (((List.range 15).map (stC c)).map D.int)), some (.int (sizC c)), some (.int (atC c)), none, some (.ref p), y8, y9, y10, y11] ∧ A' = aupd A p (.lst (((List.range i).map fun k => strL (nmB c k)).map D.str)), ⟨_, _, _, _, rfl, rfl⟩, fun i ρ A' hle hI => trivial, fun i ρ A' hi hI => ⟨_, _, (ag_name (i := 8) sc__law_names.nd rfl (.inl rfl)), ?_⟩, fun ρ A' hI => ?_⟩))
  · skip
    obtain ⟨y8, y9, y10, y11, rfl, rfl⟩ := hI
    have hi : i < m := hi
    refine AS.ro (ρ' := [some (.int c), some (.int (m : Int)), some (.str "abcdefghijklmnopqrstuvwxyz"), some (.fz (((List.range 15).map (stC c)).map D.int)), some (.int (sizC c)), some (.int (atC c)), none, some (.ref p), some (.int (i : Int)), y9, y10, y11]) ?_
    refine as_set (i := 9) sc__law_names.nd rfl (.inl rfl) (AV.ae (AV.is av_str (show _ = D.str (strL ((List.range 0).map (gB c i))) from rfl)) ?_)
    refine AS.ro (ρ' := [some (.int c), some (.int (m : Int)), some (.str "abcdefghijklmnopqrstuvwxyz"), some (.fz (((List.range 15).map (stC c)).map D.int)), some (.int (sizC c)), some (.int (atC c)), none, some (.ref p), some (.int (i : Int)), some (.str (strL ((List.range 0).map (gB c i)))), y10, y11]) ?_
    refine as_cons (a1_for hp rfl (ai_rng rfl T.m_range (av_var (i := 4) rfl (.inl rfl) rfl) (by omega) (by omega) ⟨fun j ρ A' => ∃ (y10 y11 : Option D), ρ = [some (.int c), some (.int (m : Int)), some (.str "abcdefghijklmnopqrstuvwxyz"), some (.fz (((List.range 15).map (stC c)).map D.int)), some (.int (sizC c)), some (.int (atC c)), none, some (.ref p), some (.int (i : Int)), some (.str (strL ((List.range j).map (gB c i)))), y10, y11] ∧ A' = aupd A p (.lst (((List.range i).map fun k => strL (nmB c k)).map D.str)), ⟨_, _, rfl, rfl⟩, fun j ρ A' hle hI => trivial, fun j ρ A' hj hI => ⟨_, _, (ag_name (i := 10) sc__law_names.nd rfl (.inl rfl)), ?_⟩, fun ρ A' hI => ?_⟩))
    · skip
      obtain ⟨y10, y11, rfl, rfl⟩ := hI
      have hj2 : (j : Int) < sizC c := by omega
      refine AS.ro (ρ' := [some (.int c), some (.int (m : Int)), some (.str "abcdefghijklmnopqrstuvwxyz"), some (.fz (((List.range 15).map (stC c)).map D.int)), some (.int (sizC c)), some (.int (atC c)), none, some (.ref p), some (.int (i : Int)), some (.str (strL ((List.range j).map (gB c i)))), some (.int (j : Int)), y11]) ?_
      refine as_set (i := 11) sc__law_names.nd rfl (.inl rfl) (AV.ae (AV.is (av_ixDN (f := D.int) (0 : Int) (av_var (i := 3) rfl (.inr (.inl rfl)) rfl) IsL.fz (av_add av_int (av_var (i := 10) rfl (.inl rfl) rfl)) (n := 2 + j) (by omega) (by simp; omega)) (show _ = D.int (stC c (2 + j)) by rw [row15 c (by omega)])) ?_)
      refine AS.ro (ρ' := [some (.int c), some (.int (m : Int)), some (.str "abcdefghijklmnopqrstuvwxyz"), some (.fz (((List.range 15).map (stC c)).map D.int)), some (.int (sizC c)), some (.int (atC c)), none, some (.ref p), some (.int (i : Int)), some (.str (strL ((List.range j).map (gB c i)))), some (.int (j : Int)), some (.int (stC c (2 + j)))]) ?_
      refine as_if1 (f := D.int) (fun y : Int => y = stC c (2 + j) + if (j : Int) = atC c then (i : Int) else 0) 11 (at_eq (av_var (i := 10) rfl (.inl rfl) rfl) (av_var (i := 5) rfl (.inl rfl) rfl)) (fun hb1 => ?_) (fun hb1 => ?_) fun y hy => ?_
      · exact as_cons (a1_set (i := 11) sc__law_names.nd rfl (.inl rfl) (AV.ae (av_add (av_var (i := 11) rfl (.inl rfl) rfl) (av_var (i := 8) rfl (.inl rfl) rfl)) (as_nil ⟨_, by rw [if_pos (of_decide_eq_true hb1)], rfl, rfl⟩)))
      · exact as_nil ⟨_, by rw [if_neg (of_decide_eq_false hb1)], by rw [Int.add_zero]; rfl, rfl⟩
      refine AS.ro (ρ' := [some (.int c), some (.int (m : Int)), some (.str "abcdefghijklmnopqrstuvwxyz"), some (.fz (((List.range 15).map (stC c)).map D.int)), some (.int (sizC c)), some (.int (atC c)), none, some (.ref p), some (.int (i : Int)), some (.str (strL ((List.range j).map (gB c i)))), some (.int (j : Int)), some (.int y)]) ?_
      refine as_set (i := 9) sc__law_names.nd rfl (.inl rfl) (AV.ae (AV.is (av_catS (av_var (i := 9) rfl (.inl rfl) rfl) (av_ixS (av_var (i := 2) rfl (.inr (.inl rfl)) rfl) (AV.is (av_mod (av_var (i := 11) rfl (.inl rfl) rfl) av_int (by decide)) (show _ = D.int (y % 26) from rfl)) (Int.emod_nonneg _ (by decide)) (Int.lt_trans (Int.emod_lt_of_pos _ (by decide)) (by decide)) (letter_iz (Int.emod_nonneg _ (by decide)) (Int.emod_lt_of_pos _ (by decide)))) (by rw [len_strL, List.length_map, List.length_range]; exact Nat.le_of_lt (small1000 (by show j + 1 ≤ 1000; omega)))) (show _ = D.str (strL ((List.range (j + 1)).map (gB c i))) by rw [strL_snoc, List.range_succ, List.map_append, hy]; rfl)) ?_)
      exact as_nil ⟨_, _, rfl, rfl⟩
    obtain ⟨y10, y11, rfl, rfl⟩ := hI
    refine as_cons (a1_expr (ae_append (AV.ae (av_var (i := 7) rfl (.inl rfl) rfl) ⟨_, rfl, ⟨_, aupd_same⟩, AV.ae (av_var (i := 9) rfl (.inl rfl) rfl) ⟨_, aupd_same, (by rw [List.length_map, List.length_map, List.length_range]; exact small1000 (by omega)), ?_⟩⟩)))
    exact as_nil ⟨_, _, _, _, rfl, by rw [aupd_aupd, map_snoc, List.range_succ (n := i), List.map_append (f := fun k => strL (nmB c k))]; rfl⟩
  obtain ⟨y8, y9, y10, y11, rfl, rfl⟩ := hI
  have e : namesC c m = (List.range m).map fun i => strL (nmB c i) := List.map_congr_left fun i _ => by unfold nmOf; rw [if_neg hb]
  rw [e] at hk
  exact as_ret (AV.ae (av_var (i := 7) rfl (.inl rfl) rfl) (hk p hq))
theorem ratE_ {p q : Rat} (h1 : p.num = q.num) (h2 : (p.den : Int) = (q.den : Int)) : p = q := rat_ext h1 (by omega)
theorem sh_inj {p q : Rat} (h : sh p = sh q) : p = q := by
  have h : D.tup [.int p.num, .int (p.den : Int)] = D.tup [.int q.num, .int (q.den : Int)] := h
  injection h with h
  injection h with h1 h
  injection h with h2 _
  injection h1 with h1
  injection h2 with h2
  exact ratE_ h1 h2
theorem pt_inj {p q : Pt} (h : pt p = pt q) : p = q := by
  have h : D.tup [sh p.1, sh p.2] = D.tup [sh q.1, sh q.2] := h
  injection h with h
  injection h with h1 h
  injection h with h2 _
  exact Prod.ext (sh_inj h1) (sh_inj h2)
theorem pt_map_inj : ∀ {xs ys : List Pt}, xs.map pt = ys.map pt → xs = ys
  | [], [], _ => rfl
  | [], _ :: _, h => nomatch h
  | _ :: _, [], h => nomatch h
  | x :: xs, y :: ys, h => by
    rw [List.map_cons, List.map_cons] at h
    injection h with h1 h2
    rw [pt_inj h1, pt_map_inj h2]
theorem split_ws {ws : List Str} (h : ws ≠ []) (hf : ∀ x ∈ ws, 32 ∉ TL.tl x) : Txt.split (Str.join " " ws) " " = ws := by
  rw [← TL.join_eq]
  exact TL.split_join (y := " ") (s := 32) (S := []) rfl (all256 (l := [32]) rfl rfl) h hf
theorem name_free {n : Str} (h : NameL (TL.tl n)) : 32 ∉ TL.tl n := fun h9 => by
  have := h.2.2 _ h9
  omega
theorem name_len {n : Str} (h : NameL (TL.tl n)) : n.length ≤ 12 := by rw [TL.len_tl]; exact h.2.1
theorem ptT_free (p : Pt) : 32 ∉ TL.tl (ptT p) := by
  rw [tl_ptT]
  exact ptl_free (by decide) (by decide) (by decide) (by decide)
theorem word_n {n : Str} (h : NameL (TL.tl n)) : WordV 110 n (.str n) := by
  unfold WordV
  rw [if_neg (by decide), if_neg (by decide)]
  exact ⟨h, rfl⟩
theorem word_w {n : Str} (h : NameL (TL.tl n)) : WordV 119 n (.str n) := by
  unfold WordV
  rw [if_neg (by decide), if_neg (by decide)]
  exact ⟨h, rfl⟩
theorem RowV_mk {w sh : Str} {ws : List Str} {ps : List D} (hsh : lkT kvs_SHAPES w = some sh) (hl : sh.cps.size = ws.length) (hp : ps.length = ws.length) (hw : ∀ i, i < ws.length → WordV (sh.cps.getD i 0) (ws.getD i default) (ps.getD i .non)) : RowV (w :: ws) (.tup [.str w, .fz ps]) := by
  have hc : w ≠ "curve" := fun e => by rw [e] at hsh; cases hsh
  refine .inr ⟨fun h => hc h.1, sh, hsh, by rw [hl]; rfl, fun i hi => ⟨_, hw i (by omega)⟩, ?_⟩
  congr 1
  congr 1
  congr 1
  congr 1
  refine List.ext_getElem? fun i => ?_
  by_cases hi : i < ws.length
  · rw [List.getElem?_map, List.getElem?_range (by omega), List.getElem?_eq_getElem (by omega)]
    have h1 := hw i hi
    rw [List.getD_eq_getElem?_getD (l := ps), List.getElem?_eq_getElem (by omega), Option.getD_some] at h1
    have h2 := wdOf_ok ⟨_, h1⟩
    rw [WordV_one h1 h2]
    rfl
  · rw [List.getElem?_eq_none (by omega), List.getElem?_eq_none (by rw [List.length_map, List.length_range]; omega)]
theorem RowV_curve {n : Str} {row : List Pt} (hn : NameL (TL.tl n)) (h0 : 0 < row.length) (h1 : row.length ≤ 12) (h : ∀ p ∈ row, FgP p) : RowV ("curve" :: n :: row.map ptT) (.tup [.str "curve", .fz [.str n, fzs pt row]]) :=
  .inl ⟨rfl, by rw [List.length_cons, List.length_cons, List.length_map]; omega, row, hn, rdC_cv h0 h1 h, rfl⟩
theorem RowV_n {w n : Str} (hsh : lkT kvs_SHAPES w = some "n") (hn : NameL (TL.tl n)) : RowV [w, n] (.tup [.str w, .fz [.str n]]) :=
  RowV_mk hsh rfl rfl fun i hi => match i, hi with
    | 0, _ => word_n hn
theorem RowV_0 {w : Str} (hsh : lkT kvs_SHAPES w = some "") : RowV [w] (.tup [.str w, .fz []]) :=
  RowV_mk hsh rfl rfl fun i hi => absurd hi (Nat.not_lt_zero _)
theorem knw_n {bk : List (Str × List Pt)} {n : Str} {row : List Pt} (h : lkB bk n = some row) : Knw bk "n" [.str n] := fun i hi _ => match i, hi with
  | 0, _ => ⟨n, row, rfl, h⟩
/-- say, of a row that is read -/
theorem say_of {C N M : Addr} {cC cA cH : Ct} {A : AH} {p b : Addr} {bk : List (Str × List Pt)} {x w : Str} {ps : List D} {k : AK} {e : Value → AH → Prop} (hl : x.length ≤ 200000) (hD : IsDesk C A p b bk) (hb : bk.length < 64) (hn : ∀ q ∈ bk, q.1.length ≤ 1000) (hR : RowV (Txt.split x " ") (.tup [.str w, .fz ps])) (h : SayK M cC cA cH A p b bk w ps k e) :
    ct_say C N M cC cA cH [.ref p, .str x] A k e :=
  ⟨p, b, bk, x, rfl, hl, hD, hb, hn, fun no => absurd hR (no _), fun w' ps' h' => by
    have e9 := RowV_one hR h'
    injection e9 with e9
    injection e9 with e1 e2
    injection e2 with e2 _
    injection e1 with e1
    injection e2 with e2
    subst e1
    subst e2
    exact h⟩
theorem SayK_curve {M : Addr} {cC cA cH : Ct} {A : AH} {p b : Addr} {bk : List (Str × List Pt)} {n : Str} {row : List Pt} {k : AK} {e : Value → AH → Prop} (h : k (.str "ok") (aupd A b (dkS (bookA (putB bk n row))))) : SayK M cC cA cH A p b bk "curve" [.str n, fzs pt row] k e :=
  ⟨fun _ n' row' e9 => by
    injection e9 with e1 e9
    injection e1 with e1
    injection e9 with e2 _
    have e3 : row.map pt = row'.map pt := by injection e2
    have e4 := pt_map_inj e3
    rw [← e1, ← e4]
    exact h, fun e9 => absurd e9 (by decide), fun h9 => absurd rfl h9⟩
theorem SayK_names {M : Addr} {cC cA cH : Ct} {A : AH} {p b : Addr} {bk : List (Str × List Pt)} {k : AK} {e : Value → AH → Prop} (h : k (.str (if bk.isEmpty then "none" else Str.join " " (srtN (bk.map (·.1))))) A) : SayK M cC cA cH A p b bk "names" [] k e :=
  ⟨fun e9 => absurd e9 (by decide), fun _ => h, fun _ h9 => absurd rfl h9⟩
/-- the words about one curve -/
theorem SayK_A {M : Addr} {cC cA cH : Ct} {A : AH} {p b : Addr} {bk : List (Str × List Pt)} {w sh n : Str} {ps : List D} {row : List Pt} {k : AK} {e : Value → AH → Prop} (hw : w ∈ wA) (hsh : lkT kvs_SHAPES w = some sh) (hk : Knw bk sh ps) (h0 : ps.getD 0 .non = .str n) (hr : lkB bk n = some row) (h : cA [.ref p, .str w, fzs pt row, .fz ps] A k e) : SayK M cC cA cH A p b bk w ps k e := by
  have hall : ∀ w ∈ wA, w ≠ "curve" ∧ w ≠ "names" ∧ w ∉ w4 := by decide
  obtain ⟨h1, h2, h3⟩ := hall w hw
  refine ⟨fun e9 => absurd e9 h1, fun e9 => absurd e9 h2, fun _ _ sh' hsh' => ?_⟩
  rw [hsh] at hsh'
  cases hsh'
  refine ⟨fun no => absurd hk no, fun _ n' row' h0' hr' => ⟨fun h9 => absurd h9 h3, fun _ => ?_, fun _ h9 => absurd hw h9⟩⟩
  rw [h0] at h0'
  cases h0'
  rw [hr] at hr'
  cases hr'
  exact h
theorem SayK_H {M : Addr} {cC cA cH : Ct} {A : AH} {p b : Addr} {bk : List (Str × List Pt)} {w sh n : Str} {ps : List D} {row : List Pt} {k : AK} {e : Value → AH → Prop} (hw : w ∉ wA) (hw4 : w ∉ w4) (hc : w ≠ "curve") (hn : w ≠ "names") (hsh : lkT kvs_SHAPES w = some sh) (hk : Knw bk sh ps) (h0 : ps.getD 0 .non = .str n) (hr : lkB bk n = some row) (h : cH [.ref p, .str w, fzs pt row, .fz ps] A k e) : SayK M cC cA cH A p b bk w ps k e := by
  refine ⟨fun e9 => absurd e9 hc, fun e9 => absurd e9 hn, fun _ _ sh' hsh' => ?_⟩
  rw [hsh] at hsh'
  cases hsh'
  refine ⟨fun no => absurd hk no, fun _ n' row' h0' hr' => ⟨fun h9 => absurd h9 hw4, fun h9 => absurd h9 hw, fun _ _ => ?_⟩⟩
  rw [h0] at h0'
  cases h0'
  rw [hr] at hr'
  cases hr'
  exact h
/-! what a text is not, looked at by its signs -/
def okWb (l : List Nat) : Bool := decide (figs l ≠ []) && decide ((figs l).length ≤ 100) && (figs l).all (fun c => decide (48 ≤ c) && decide (c ≤ 57)) && (!decide ((figs l).head? = some 48) || decide (l = [48]))
theorem okWb_of {l : List Nat} (h : okW l) : okWb l = true := by
  unfold okWb
  rw [decide_eq_true h.1, decide_eq_true h.2.1, Bool.true_and, Bool.true_and, Bool.and_eq_true]
  refine ⟨List.all_eq_true.mpr fun c hc => ?_, ?_⟩
  · have := h.2.2.1 c hc
    rw [decide_eq_true this.1, decide_eq_true this.2]; rfl
  · by_cases h9 : (figs l).head? = some 48
    · rw [decide_eq_true (h.2.2.2 h9), Bool.or_true]
    · rw [decide_eq_false h9]; rfl
def cut1 (s : Nat) : List Nat → Option (List Nat × List Nat)
  | [] => none
  | c :: r => if c = s then some ([], r) else (cut1 s r).map fun z => (c :: z.1, z.2)
theorem cut1_of {s : Nat} {b : List Nat} : ∀ {a : List Nat}, s ∉ a → cut1 s (a ++ s :: b) = some (a, b)
  | [], _ => by simp [cut1]
  | c :: a, h => by
    have h1 : ¬ c = s := fun e => h (by rw [e]; exact List.mem_cons_self ..)
    have h2 := cut1_of (a := a) (b := b) fun e => h (List.mem_cons_of_mem _ e)
    rw [List.cons_append]
    unfold cut1
    rw [if_neg h1, h2]; rfl
theorem cut1_no {s : Nat} : ∀ {l : List Nat}, s ∉ l → cut1 s l = none
  | [], _ => rfl
  | c :: l, h => by
    have h1 : ¬ c = s := fun e => h (by rw [e]; exact List.mem_cons_self ..)
    unfold cut1
    rw [if_neg h1, cut1_no fun e => h (List.mem_cons_of_mem _ e)]; rfl
def rdSb (l : List Nat) : Bool := match cut1 47 l with
  | none => okWb l
  | some z => okWb z.1 && okWb z.2 && decide (2 ≤ valW z.2) && decide (Nat.gcd (valW z.1).natAbs (valW z.2).natAbs = 1)
theorem rdSb_of {l : List Nat} {q : Rat} (h : rdS l q) : rdSb l = true := by
  rcases h with ⟨h1, h2, _⟩ | ⟨a, b, rfl, h1, h2, h3, h4, h5, h6⟩
  · unfold rdSb
    rw [cut1_no h1]
    exact okWb_of h2
  · unfold rdSb
    rw [cut1_of h1]
    have hg : Nat.gcd (valW a).natAbs (valW b).natAbs = 1 := by
      rw [← h5, ← h6, Int.natAbs_natCast]
      exact q.reduced
    show (okWb a && okWb b && decide (2 ≤ valW b) && decide (Nat.gcd (valW a).natAbs (valW b).natAbs = 1)) = true
    rw [okWb_of h2, okWb_of h3, decide_eq_true h4, decide_eq_true hg]; rfl
def rdPb (l : List Nat) : Bool := match cut1 44 l with
  | none => false
  | some z => rdSb z.1 && rdSb z.2
theorem rdPb_of {l : List Nat} {p : Pt} (h : rdP l p) : rdPb l = true := by
  obtain ⟨a, b, rfl, h1, h2, h3⟩ := h
  unfold rdPb
  rw [cut1_of h1]
  show (rdSb a && rdSb b) = true
  rw [rdSb_of h2, rdSb_of h3]; rfl
def rdCb (l : List Nat) : Bool := decide ((TL.spl [32] 0 [] l).length ≤ 12) && (TL.spl [32] 0 [] l).all rdPb
theorem rdCb_of {x : Str} {row : List Pt} (h : rdC x row) : rdCb (TL.tl x) = true := by
  unfold rdCb
  have h1 := h.1
  have h2 := congrArg List.length (pcs_eq x)
  rw [List.length_map] at h2
  rw [Bool.and_eq_true]
  refine ⟨decide_eq_true (by omega), List.all_eq_true.mpr fun l hl => ?_⟩
  obtain ⟨p, hp⟩ := rdC_pcs h l hl
  exact rdPb_of hp
def nameb (l : List Nat) : Bool := decide (1 ≤ l.length) && decide (l.length ≤ 12) && l.all (fun c => decide (97 ≤ c) && decide (c ≤ 122))
theorem nameb_of {l : List Nat} (h : NameL l) : nameb l = true := by
  unfold nameb
  rw [decide_eq_true h.1, decide_eq_true h.2.1, Bool.true_and, Bool.true_and]
  refine List.all_eq_true.mpr fun c hc => ?_
  have := h.2.2 c hc
  rw [decide_eq_true this.1, decide_eq_true this.2]; rfl
def levelb : List Nat → Bool
  | [c] => decide (48 ≤ c) && decide (c ≤ 54)
  | _ => false
theorem levelb_of {l : List Nat} {i : Int} (h : LevelL l i) : levelb l = true := by
  obtain ⟨c, rfl, h1, h2, _⟩ := h
  show (decide (48 ≤ c) && decide (c ≤ 54)) = true
  rw [decide_eq_true h1, decide_eq_true h2]; rfl
theorem no_s {x : Str} (h : rdSb (TL.tl x) = false) : ∀ q, ¬ rdS (TL.tl x) q := fun q g => by rw [rdSb_of g] at h; cases h
theorem no_n {x : Str} (h : nameb (TL.tl x) = false) : ¬ NameL (TL.tl x) := fun g => by rw [nameb_of g] at h; cases h
theorem no_c {x : Str} (h : rdCb (TL.tl x) = false) : ∀ row, ¬ rdC x row := fun row g => by rw [rdCb_of g] at h; cases h
theorem wn_s {x : Str} (h : ∀ q, ¬ rdS (TL.tl x) q) : ∀ d, ¬ WordV 115 x d := fun d g => by
  unfold WordV at g
  rw [if_pos rfl] at g
  obtain ⟨q, g, _⟩ := g
  exact h q g
theorem wn_n {x : Str} (h : ¬ NameL (TL.tl x)) : ∀ d, ¬ WordV 110 x d := fun d g => by
  unfold WordV at g
  rw [if_neg (by decide), if_neg (by decide)] at g
  exact h g.1
theorem wn_w {x : Str} (h : ¬ NameL (TL.tl x)) : ∀ d, ¬ WordV 119 x d := fun d g => by
  unfold WordV at g
  rw [if_neg (by decide), if_neg (by decide)] at g
  exact h g.1
theorem wn_l {x : Str} (h : levelb (TL.tl x) = false) : ∀ d, ¬ WordV 108 x d := fun d g => by
  unfold WordV at g
  rw [if_neg (by decide), if_pos rfl] at g
  obtain ⟨i, g, _⟩ := g
  rw [levelb_of g] at h
  cases h
/-! words that are none -/
def NoR (ws : List Str) : Prop := ∀ d, ¬ RowV ws d
def shpB (w : Str) (n : Nat) : Bool := !(decide (w = "curve") && decide (2 < n)) && match lkT kvs_SHAPES w with
  | none => true
  | some sh => decide (sh.cps.size + 1 ≠ n)
theorem nr_shape {ws : List Str} {n : Nat} (w : Str) (h0 : ws.getD 0 default = w) (hl : ws.length = n) (h : shpB w n = true) : NoR ws := fun d g => by
  unfold shpB at h
  rw [Bool.and_eq_true] at h
  rcases g with ⟨g1, g2, _⟩ | ⟨_, sh, g1, g2, _⟩
  · rw [← h0, ← hl, decide_eq_true g1, decide_eq_true g2] at h
    exact absurd h.1 (by decide)
  · rw [h0] at g1
    rw [g1] at h
    exact of_decide_eq_true h.2 (by rw [g2, hl])
theorem nr_word {ws : List Str} {sh : Str} (w : Str) (i : Nat) (h0 : ws.getD 0 default = w) (hc : w ≠ "curve") (hsh : lkT kvs_SHAPES w = some sh) (hi : i < sh.cps.size) (hb : ∀ d, ¬ WordV (sh.cps.getD i 0) (ws.getD (i + 1) default) d) : NoR ws := fun d g => by
  rcases g with ⟨g1, _⟩ | ⟨_, sh', g1, g2, g3, _⟩
  · exact hc (h0 ▸ g1)
  · rw [h0, hsh] at g1
    cases g1
    obtain ⟨v, g4⟩ := g3 i hi
    exact hb v g4
theorem nr_cname {ws : List Str} (h0 : ws.getD 0 default = "curve") (hl : 2 < ws.length) (hb : ¬ NameL (TL.tl (ws.getD 1 default))) : NoR ws := fun d g => by
  rcases g with ⟨_, _, _, g, _⟩ | ⟨g, _⟩
  · exact hb g
  · exact g ⟨h0, hl⟩
theorem nr_cbody {ws : List Str} (h0 : ws.getD 0 default = "curve") (hl : 2 < ws.length) (hb : ∀ row, ¬ rdC (Str.join " " (ws.drop 2)) row) : NoR ws := fun d g => by
  rcases g with ⟨_, _, row, _, g, _⟩ | ⟨g, _⟩
  · exact hb row g
  · exact g ⟨h0, hl⟩
/-! texts with gaps -/
def fillL (a b o : List Nat) (l : List Nat) : List Nat := l.flatMap fun c => if c = 91 then a else if c = 93 then b else if c = 63 then o else [c]
theorem fill_app (a b o x y : List Nat) : fillL a b o (x ++ y) = fillL a b o x ++ fillL a b o y := by unfold fillL; rw [List.flatMap_append]
theorem fill_a (a b o : List Nat) : fillL a b o [91] = a := by simp [fillL]
theorem fill_o (a b o : List Nat) : fillL a b o [63] = o := by simp [fillL]
theorem fill_join (a b o : List Nat) : ∀ xs : List (List Nat), fillL a b o (TL.joinL [32] xs) = TL.joinL [32] (xs.map (fillL a b o))
  | [] => rfl
  | [x] => rfl
  | x :: y :: r => by
    have ih := fill_join a b o (y :: r)
    show fillL a b o (x ++ ([32] ++ TL.joinL [32] (y :: r))) = fillL a b o x ++ ([32] ++ TL.joinL [32] (fillL a b o y :: r.map (fillL a b o)))
    rw [fill_app, fill_app, ih]
    rfl
theorem fill_free {a b o : List Nat} (ha : 32 ∉ a) (hb : 32 ∉ b) (ho : 32 ∉ o) {l : List Nat} (h : 32 ∉ l) : 32 ∉ fillL a b o l := fun g => by
  unfold fillL at g
  obtain ⟨c, hc, g⟩ := List.mem_flatMap.mp g
  split at g
  · exact ha g
  split at g
  · exact hb g
  split at g
  · exact ho g
  · rw [List.mem_singleton.mp g] at h
    exact h hc
def fillS (a b o t : Str) : Str := strL (fillL (TL.tl a) (TL.tl b) (TL.tl o) (TL.tl t))
def fw (a b o : Str) (l : List Nat) : Str := strL (fillL (TL.tl a) (TL.tl b) (TL.tl o) l)
theorem fw_a (a b o : Str) : fw a b o [91] = a := by unfold fw; rw [fill_a, strL_tl]
theorem fw_o (a b o : Str) : fw a b o [63] = o := by unfold fw; rw [fill_o, strL_tl]
theorem split_fill {a b o t : Str} {tws : List (List Nat)} (ha : 32 ∉ TL.tl a) (hb : 32 ∉ TL.tl b) (ho : 32 ∉ TL.tl o) (ht : TL.tl t = TL.joinL [32] tws) (hn : tws ≠ []) (hf : ∀ x ∈ tws, 32 ∉ x) : Txt.split (fillS a b o t) " " = tws.map (fw a b o) := by
  have e : fillS a b o t = Str.join " " (tws.map (fw a b o)) := TL.ext_tl (by
    rw [TL.tl_join]
    show fillL _ _ _ (TL.tl t) = TL.joinL [32] _
    rw [ht, fill_join, List.map_map]
    rfl)
  rw [e]
  refine split_ws (by simpa using hn) fun x hx => ?_
  obtain ⟨l, hl, rfl⟩ := List.mem_map.mp hx
  exact fill_free ha hb ho (hf l hl)
theorem spl_free : ∀ (l acc : List Nat), 32 ∉ acc → ∀ p ∈ TL.spl [32] 0 acc l, 32 ∉ p
  | [], acc, h, p, hp => by
    rw [TL.spl_nil] at hp
    rw [List.mem_singleton.mp hp]
    exact h
  | c :: r, acc, h, p, hp => by
    by_cases e : c = 32
    · subst e
      rw [spl32_hit] at hp
      rcases List.mem_cons.mp hp with rfl | hp
      · exact h
      · exact spl_free r [] (fun z => nomatch z) p hp
    · rw [spl32_miss e] at hp
      refine spl_free r _ (fun z => ?_) p hp
      rcases List.mem_append.mp z with z | z
      · exact h z
      · exact e (List.mem_singleton.mp z).symm
theorem split_free (x : Str) : ∀ p ∈ Txt.split x " ", 32 ∉ TL.tl p := fun p hp => spl_free (TL.tl x) [] (fun z => nomatch z) _ (by rw [← pcs_eq]; exact List.mem_map_of_mem hp)
theorem split_two (x y : Str) : Txt.split (x ++ " " ++ y) " " = Txt.split x " " ++ Txt.split y " " := by
  have h : (Txt.split (x ++ " " ++ y) " ").map TL.tl = (Txt.split x " " ++ Txt.split y " ").map TL.tl := by
    rw [List.map_append, pcs_eq, pcs_eq, pcs_eq, TL.tl_append, TL.tl_append, List.append_assoc]
    exact spl32_app _ [] _
  have inj : ∀ {xs ys : List Str}, xs.map TL.tl = ys.map TL.tl → xs = ys := by
    intro xs
    induction xs with
    | nil => intro ys e; cases ys with | nil => rfl | cons => cases e
    | cons a xs ih =>
      intro ys e
      cases ys with
      | nil => cases e
      | cons b ys =>
        rw [List.map_cons, List.map_cons] at e
        injection e with e1 e2
        rw [TL.ext_tl e1, ih e2]
  exact inj h
theorem rdC_join {x : Str} {row : List Pt} (h : rdC (Str.join " " (Txt.split x " ")) row) : rdC x row := by
  have e := split_ws (ws := Txt.split x " ") (fun z => by have := split_pos1 x; rw [z] at this; exact absurd this (by decide)) (split_free x)
  unfold rdC at h ⊢
  rw [e] at h
  exact h
def noWordsT : List Str := [("point [ ?" : Str), ("cut [ ? [ ]" : Str), ("stretch [ 0 ? ]" : Str), ("stretch [ ? 1 ]" : Str), ("move [ 1 0 ? 1 0 0" : Str), ("curve ] 1,?" : Str), ("curve ] 0,0 ?,1" : Str), ("point nobody ?" : Str), ("move [ 1 0 0 1 0 ?" : Str)]
def noNamesT : List Str := [("tell ?" : Str), ("curve ? 1,1" : Str), ("turn ?" : Str), ("same [ ?" : Str), ("speed [ ?" : Str), ("cut [ 1/2 ] ?" : Str), ("hull ?" : Str), ("raise ?" : Str), ("point ? 1/2" : Str)]
def strangersT : List Str := [("tell ?" : Str), ("point ? 1/2" : Str), ("cut ? 0 [ [" : Str), ("stretch ? 0 1 [" : Str), ("turn ?" : Str), ("raise ?" : Str), ("lower ?" : Str), ("least ?" : Str), ("speed ? [" : Str), ("hull ?" : Str), ("move ? 1 0 0 1 0 0" : Str), ("same [ ?" : Str), ("part ? [" : Str), ("box ?" : Str), ("join [ ?" : Str), ("meet ? [ 0" : Str), ("same ? ?" : Str)]
def noRowsT : List Str := [("" : Str), (" " : Str), ("tell" : Str), ("tell " : Str), ("tell  [" : Str), (" tell [" : Str), ("tell [ " : Str), ("tell [ ]" : Str), ("Tell [" : Str), ("names " : Str), ("names [" : Str), ("curve" : Str), ("curve [" : Str), ("curve [ " : Str), ("curves [ 1,1" : Str), ("curve [  1,1" : Str), ("point [" : Str), ("cut [ 1/2 [" : Str), ("stretch [ 0 1" : Str), ("speed [" : Str), ("move [ 1 0 0 1 0" : Str), ("same [" : Str), ("meet [ ]" : Str), ("hull" : Str), ("box [ ]" : Str), ("part [" : Str), ("join [ ] 2" : Str), ("raise" : Str), ("lower [ 1" : Str), ("least" : Str), ("turn [ ]" : Str), ("move [ 1 0 0 1 0 0 0" : Str), ("speed [ ] ]" : Str), ("cut [ 1/2 [ ] ]" : Str), ("tell [\n" : Str), ("names\n" : Str)]
def oddsS : List Str := [("" : Str), ("x" : Str), ("1/0" : Str), ("2/4" : Str), ("1/1" : Str), ("01" : Str), ("-0" : Str), ("+1" : Str), ("1/-2" : Str), ("1/2/3" : Str), ("1/" : Str), ("/2" : Str), ("-" : Str), ("1.5" : Str), ("0/1" : Str)] ++ [repS "1" 101]
def oddsN : List Str := [("" : Str), ("A" : Str), ("aB" : Str), ("a1" : Str), ("abcdefghijklm" : Str), ("a_" : Str), ("-" : Str), ("7" : Str), ("*" : Str)]
def oddsM : List Str := [("7" : Str), ("-1" : Str), ("01" : Str), ("" : Str), ("x" : Str), ("1/2" : Str), ("10" : Str), (" 0" : Str)]
def oddsC : List Str := [("1" : Str), ("1,2,3" : Str), ("," : Str), ("1," : Str), (",1" : Str), ("1;1" : Str), ("1,1" : Str) ++ repS " 0,0" 12, ("1,1," : Str), ("1,1 " : Str)]
theorem rdC_words {ws : List Str} {row : List Pt} (hn : ws ≠ []) (hf : ∀ x ∈ ws, 32 ∉ TL.tl x) (g : rdC (Str.join " " ws) row) : ∀ x ∈ ws, ∃ p, rdP (TL.tl x) p := fun x hx =>
  rdC_pcs g _ (by rw [← pcs_eq, split_ws hn hf]; exact List.mem_map_of_mem hx)
theorem oddsS_ok : ∀ o ∈ oddsS, 32 ∉ TL.tl o ∧ 44 ∉ TL.tl o ∧ rdSb (TL.tl o) = false ∧ o.length ≤ 101 := by decide +kernel
theorem oddsN_ok : ∀ o ∈ oddsN, 32 ∉ TL.tl o ∧ nameb (TL.tl o) = false ∧ o.length ≤ 101 := by decide +kernel
theorem oddsC_ok : ∀ o ∈ oddsC, rdCb (TL.tl o) = false ∧ o.length ≤ 101 := by decide +kernel
theorem nw_bad {a b o : Str} (ha : NameL (TL.tl a)) (hb : NameL (TL.tl b)) (ho : 32 ∉ TL.tl o) (hc : 44 ∉ TL.tl o) (hs : ∀ q, ¬ rdS (TL.tl o) q) : ∀ t ∈ noWordsT, NoR (Txt.split (fillS a b o t) " ") := by
  intro t ht
  have ha9 := name_free ha
  have hb9 := name_free hb
  have ho9 := ho
  simp only [noWordsT, List.mem_cons, List.not_mem_nil, or_false] at ht
  rcases ht with rfl | rfl | rfl | rfl | rfl | rfl | rfl | rfl | rfl
  · rw [split_fill (tws := [[112, 111, 105, 110, 116], [91], [63]]) ha9 hb9 ho9 rfl (by simp) (by decide)]
    exact nr_word (sh := "ns") "point" 1 rfl (by decide) (by decide) (by decide) (wn_s (by show ∀ q, ¬ rdS (TL.tl (fw a b o [63])) q; rw [fw_o]; exact hs))
  · rw [split_fill (tws := [[99, 117, 116], [91], [63], [91], [93]]) ha9 hb9 ho9 rfl (by simp) (by decide)]
    exact nr_word (sh := "nsww") "cut" 1 rfl (by decide) (by decide) (by decide) (wn_s (by show ∀ q, ¬ rdS (TL.tl (fw a b o [63])) q; rw [fw_o]; exact hs))
  · rw [split_fill (tws := [[115, 116, 114, 101, 116, 99, 104], [91], [48], [63], [93]]) ha9 hb9 ho9 rfl (by simp) (by decide)]
    exact nr_word (sh := "nssw") "stretch" 2 rfl (by decide) (by decide) (by decide) (wn_s (by show ∀ q, ¬ rdS (TL.tl (fw a b o [63])) q; rw [fw_o]; exact hs))
  · rw [split_fill (tws := [[115, 116, 114, 101, 116, 99, 104], [91], [63], [49], [93]]) ha9 hb9 ho9 rfl (by simp) (by decide)]
    exact nr_word (sh := "nssw") "stretch" 1 rfl (by decide) (by decide) (by decide) (wn_s (by show ∀ q, ¬ rdS (TL.tl (fw a b o [63])) q; rw [fw_o]; exact hs))
  · rw [split_fill (tws := [[109, 111, 118, 101], [91], [49], [48], [63], [49], [48], [48]]) ha9 hb9 ho9 rfl (by simp) (by decide)]
    exact nr_word (sh := "nssssss") "move" 3 rfl (by decide) (by decide) (by decide) (wn_s (by show ∀ q, ¬ rdS (TL.tl (fw a b o [63])) q; rw [fw_o]; exact hs))
  · rw [split_fill (tws := [[99, 117, 114, 118, 101], [93], [49, 44, 63]]) ha9 hb9 ho9 rfl (by simp) (by decide)]
    refine nr_cbody rfl (show 2 < 3 by decide) fun row g => ?_
    obtain ⟨p, c, d, e, h1, h2, h3⟩ := rdC_words (ws := [fw a b o [49, 44, 63]]) (by simp) (fun x hx => by simp only [List.mem_cons, List.not_mem_nil, or_false] at hx; rcases hx with rfl <;> exact fill_free ha9 hb9 ho9 (by decide)) g (fw a b o [49, 44, 63]) (by simp)
    have e9 : TL.tl (fw a b o [49, 44, 63]) = [49] ++ 44 :: TL.tl o := by unfold fw; rw [tl_strL]; show [49] ++ ([44] ++ fillL _ _ _ [63]) = _; rw [fill_o]; rfl
    rw [e9] at e
    obtain ⟨_, rfl⟩ := first_uniq e (by decide) h1
    exact hs _ h3
  · rw [split_fill (tws := [[99, 117, 114, 118, 101], [93], [48, 44, 48], [63, 44, 49]]) ha9 hb9 ho9 rfl (by simp) (by decide)]
    refine nr_cbody rfl (show 2 < 4 by decide) fun row g => ?_
    obtain ⟨p, c, d, e, h1, h2, h3⟩ := rdC_words (ws := [fw a b o [48, 44, 48], fw a b o [63, 44, 49]]) (by simp) (fun x hx => by simp only [List.mem_cons, List.not_mem_nil, or_false] at hx; rcases hx with rfl | rfl <;> exact fill_free ha9 hb9 ho9 (by decide)) g (fw a b o [63, 44, 49]) (by simp)
    have e9 : TL.tl (fw a b o [63, 44, 49]) = TL.tl o ++ 44 :: [49] := by unfold fw; rw [tl_strL]; show fillL _ _ _ ([63] ++ [44, 49]) = _; rw [fill_app, fill_o]; rfl
    rw [e9] at e
    obtain ⟨rfl, _⟩ := first_uniq e hc h1
    exact hs _ h2
  · rw [split_fill (tws := [[112, 111, 105, 110, 116], [110, 111, 98, 111, 100, 121], [63]]) ha9 hb9 ho9 rfl (by simp) (by decide)]
    exact nr_word (sh := "ns") "point" 1 rfl (by decide) (by decide) (by decide) (wn_s (by show ∀ q, ¬ rdS (TL.tl (fw a b o [63])) q; rw [fw_o]; exact hs))
  · rw [split_fill (tws := [[109, 111, 118, 101], [91], [49], [48], [48], [49], [48], [63]]) ha9 hb9 ho9 rfl (by simp) (by decide)]
    exact nr_word (sh := "nssssss") "move" 6 rfl (by decide) (by decide) (by decide) (wn_s (by show ∀ q, ¬ rdS (TL.tl (fw a b o [63])) q; rw [fw_o]; exact hs))
theorem nn_bad {a b o : Str} (ha : NameL (TL.tl a)) (hb : NameL (TL.tl b)) (ho : 32 ∉ TL.tl o) (hs : ¬ NameL (TL.tl o)) : ∀ t ∈ noNamesT, NoR (Txt.split (fillS a b o t) " ") := by
  intro t ht
  have ha9 := name_free ha
  have hb9 := name_free hb
  have ho9 := ho
  simp only [noNamesT, List.mem_cons, List.not_mem_nil, or_false] at ht
  rcases ht with rfl | rfl | rfl | rfl | rfl | rfl | rfl | rfl | rfl
  · rw [split_fill (tws := [[116, 101, 108, 108], [63]]) ha9 hb9 ho9 rfl (by simp) (by decide)]
    exact nr_word (sh := "n") "tell" 0 rfl (by decide) (by decide) (by decide) (wn_n (by show ¬ NameL (TL.tl (fw a b o [63])); rw [fw_o]; exact hs))
  · rw [split_fill (tws := [[99, 117, 114, 118, 101], [63], [49, 44, 49]]) ha9 hb9 ho9 rfl (by simp) (by decide)]
    exact nr_cname rfl (show 2 < 3 by decide) (by show ¬ NameL (TL.tl (fw a b o [63])); rw [fw_o]; exact hs)
  · rw [split_fill (tws := [[116, 117, 114, 110], [63]]) ha9 hb9 ho9 rfl (by simp) (by decide)]
    exact nr_word (sh := "n") "turn" 0 rfl (by decide) (by decide) (by decide) (wn_n (by show ¬ NameL (TL.tl (fw a b o [63])); rw [fw_o]; exact hs))
  · rw [split_fill (tws := [[115, 97, 109, 101], [91], [63]]) ha9 hb9 ho9 rfl (by simp) (by decide)]
    exact nr_word (sh := "nn") "same" 1 rfl (by decide) (by decide) (by decide) (wn_n (by show ¬ NameL (TL.tl (fw a b o [63])); rw [fw_o]; exact hs))
  · rw [split_fill (tws := [[115, 112, 101, 101, 100], [91], [63]]) ha9 hb9 ho9 rfl (by simp) (by decide)]
    exact nr_word (sh := "nw") "speed" 1 rfl (by decide) (by decide) (by decide) (wn_w (by show ¬ NameL (TL.tl (fw a b o [63])); rw [fw_o]; exact hs))
  · rw [split_fill (tws := [[99, 117, 116], [91], [49, 47, 50], [93], [63]]) ha9 hb9 ho9 rfl (by simp) (by decide)]
    exact nr_word (sh := "nsww") "cut" 3 rfl (by decide) (by decide) (by decide) (wn_w (by show ¬ NameL (TL.tl (fw a b o [63])); rw [fw_o]; exact hs))
  · rw [split_fill (tws := [[104, 117, 108, 108], [63]]) ha9 hb9 ho9 rfl (by simp) (by decide)]
    exact nr_word (sh := "n") "hull" 0 rfl (by decide) (by decide) (by decide) (wn_n (by show ¬ NameL (TL.tl (fw a b o [63])); rw [fw_o]; exact hs))
  · rw [split_fill (tws := [[114, 97, 105, 115, 101], [63]]) ha9 hb9 ho9 rfl (by simp) (by decide)]
    exact nr_word (sh := "n") "raise" 0 rfl (by decide) (by decide) (by decide) (wn_n (by show ¬ NameL (TL.tl (fw a b o [63])); rw [fw_o]; exact hs))
  · rw [split_fill (tws := [[112, 111, 105, 110, 116], [63], [49, 47, 50]]) ha9 hb9 ho9 rfl (by simp) (by decide)]
    exact nr_word (sh := "ns") "point" 0 rfl (by decide) (by decide) (by decide) (wn_n (by show ¬ NameL (TL.tl (fw a b o [63])); rw [fw_o]; exact hs))
theorem nr_bad {a b : Str} (ha : NameL (TL.tl a)) (hb : NameL (TL.tl b)) : ∀ t ∈ noRowsT, NoR (Txt.split (fillS a b "" t) " ") := by
  intro t ht
  have ha9 := name_free ha
  have hb9 := name_free hb
  have ho9 := (show 32 ∉ TL.tl ("" : Str) by decide)
  simp only [noRowsT, List.mem_cons, List.not_mem_nil, or_false] at ht
  rcases ht with rfl | rfl | rfl | rfl | rfl | rfl | rfl | rfl | rfl | rfl | rfl | rfl | rfl | rfl | rfl | rfl | rfl | rfl | rfl | rfl | rfl | rfl | rfl | rfl | rfl | rfl | rfl | rfl | rfl | rfl | rfl | rfl | rfl | rfl | rfl | rfl
  · rw [split_fill (tws := [[]]) ha9 hb9 ho9 rfl (by simp) (by decide)]
    exact nr_shape (n := 1) ("" : Str) rfl rfl (by decide)
  · rw [split_fill (tws := [[], []]) ha9 hb9 ho9 rfl (by simp) (by decide)]
    exact nr_shape (n := 2) ("" : Str) rfl rfl (by decide)
  · rw [split_fill (tws := [[116, 101, 108, 108]]) ha9 hb9 ho9 rfl (by simp) (by decide)]
    exact nr_shape (n := 1) ("tell" : Str) rfl rfl (by decide)
  · rw [split_fill (tws := [[116, 101, 108, 108], []]) ha9 hb9 ho9 rfl (by simp) (by decide)]
    exact nr_word (sh := "n") "tell" 0 rfl (by decide) (by decide) (by decide) (wn_n (no_n (x := fw a b "" []) rfl))
  · rw [split_fill (tws := [[116, 101, 108, 108], [], [91]]) ha9 hb9 ho9 rfl (by simp) (by decide)]
    exact nr_shape (n := 3) ("tell" : Str) rfl rfl (by decide)
  · rw [split_fill (tws := [[], [116, 101, 108, 108], [91]]) ha9 hb9 ho9 rfl (by simp) (by decide)]
    exact nr_shape (n := 3) ("" : Str) rfl rfl (by decide)
  · rw [split_fill (tws := [[116, 101, 108, 108], [91], []]) ha9 hb9 ho9 rfl (by simp) (by decide)]
    exact nr_shape (n := 3) ("tell" : Str) rfl rfl (by decide)
  · rw [split_fill (tws := [[116, 101, 108, 108], [91], [93]]) ha9 hb9 ho9 rfl (by simp) (by decide)]
    exact nr_shape (n := 3) ("tell" : Str) rfl rfl (by decide)
  · rw [split_fill (tws := [[84, 101, 108, 108], [91]]) ha9 hb9 ho9 rfl (by simp) (by decide)]
    exact nr_shape (n := 2) ("Tell" : Str) rfl rfl (by decide)
  · rw [split_fill (tws := [[110, 97, 109, 101, 115], []]) ha9 hb9 ho9 rfl (by simp) (by decide)]
    exact nr_shape (n := 2) ("names" : Str) rfl rfl (by decide)
  · rw [split_fill (tws := [[110, 97, 109, 101, 115], [91]]) ha9 hb9 ho9 rfl (by simp) (by decide)]
    exact nr_shape (n := 2) ("names" : Str) rfl rfl (by decide)
  · rw [split_fill (tws := [[99, 117, 114, 118, 101]]) ha9 hb9 ho9 rfl (by simp) (by decide)]
    exact nr_shape (n := 1) ("curve" : Str) rfl rfl (by decide)
  · rw [split_fill (tws := [[99, 117, 114, 118, 101], [91]]) ha9 hb9 ho9 rfl (by simp) (by decide)]
    exact nr_shape (n := 2) ("curve" : Str) rfl rfl (by decide)
  · rw [split_fill (tws := [[99, 117, 114, 118, 101], [91], []]) ha9 hb9 ho9 rfl (by simp) (by decide)]
    refine nr_cbody rfl (show 2 < 3 by decide) fun row g => ?_
    obtain ⟨p, h1⟩ := rdC_words (ws := [fw a b "" []]) (by simp) (fun x hx => by simp only [List.mem_cons, List.not_mem_nil, or_false] at hx; rcases hx with rfl <;> exact fill_free ha9 hb9 ho9 (by decide)) g (fw a b "" []) (by simp)
    exact rdP_nil p h1
  · rw [split_fill (tws := [[99, 117, 114, 118, 101, 115], [91], [49, 44, 49]]) ha9 hb9 ho9 rfl (by simp) (by decide)]
    exact nr_shape (n := 3) ("curves" : Str) rfl rfl (by decide)
  · rw [split_fill (tws := [[99, 117, 114, 118, 101], [91], [], [49, 44, 49]]) ha9 hb9 ho9 rfl (by simp) (by decide)]
    refine nr_cbody rfl (show 2 < 4 by decide) fun row g => ?_
    obtain ⟨p, h1⟩ := rdC_words (ws := [fw a b "" [], fw a b "" [49, 44, 49]]) (by simp) (fun x hx => by simp only [List.mem_cons, List.not_mem_nil, or_false] at hx; rcases hx with rfl | rfl <;> exact fill_free ha9 hb9 ho9 (by decide)) g (fw a b "" []) (by simp)
    exact rdP_nil p h1
  · rw [split_fill (tws := [[112, 111, 105, 110, 116], [91]]) ha9 hb9 ho9 rfl (by simp) (by decide)]
    exact nr_shape (n := 2) ("point" : Str) rfl rfl (by decide)
  · rw [split_fill (tws := [[99, 117, 116], [91], [49, 47, 50], [91]]) ha9 hb9 ho9 rfl (by simp) (by decide)]
    exact nr_shape (n := 4) ("cut" : Str) rfl rfl (by decide)
  · rw [split_fill (tws := [[115, 116, 114, 101, 116, 99, 104], [91], [48], [49]]) ha9 hb9 ho9 rfl (by simp) (by decide)]
    exact nr_shape (n := 4) ("stretch" : Str) rfl rfl (by decide)
  · rw [split_fill (tws := [[115, 112, 101, 101, 100], [91]]) ha9 hb9 ho9 rfl (by simp) (by decide)]
    exact nr_shape (n := 2) ("speed" : Str) rfl rfl (by decide)
  · rw [split_fill (tws := [[109, 111, 118, 101], [91], [49], [48], [48], [49], [48]]) ha9 hb9 ho9 rfl (by simp) (by decide)]
    exact nr_shape (n := 7) ("move" : Str) rfl rfl (by decide)
  · rw [split_fill (tws := [[115, 97, 109, 101], [91]]) ha9 hb9 ho9 rfl (by simp) (by decide)]
    exact nr_shape (n := 2) ("same" : Str) rfl rfl (by decide)
  · rw [split_fill (tws := [[109, 101, 101, 116], [91], [93]]) ha9 hb9 ho9 rfl (by simp) (by decide)]
    exact nr_shape (n := 3) ("meet" : Str) rfl rfl (by decide)
  · rw [split_fill (tws := [[104, 117, 108, 108]]) ha9 hb9 ho9 rfl (by simp) (by decide)]
    exact nr_shape (n := 1) ("hull" : Str) rfl rfl (by decide)
  · rw [split_fill (tws := [[98, 111, 120], [91], [93]]) ha9 hb9 ho9 rfl (by simp) (by decide)]
    exact nr_shape (n := 3) ("box" : Str) rfl rfl (by decide)
  · rw [split_fill (tws := [[112, 97, 114, 116], [91]]) ha9 hb9 ho9 rfl (by simp) (by decide)]
    exact nr_shape (n := 2) ("part" : Str) rfl rfl (by decide)
  · rw [split_fill (tws := [[106, 111, 105, 110], [91], [93], [50]]) ha9 hb9 ho9 rfl (by simp) (by decide)]
    exact nr_shape (n := 4) ("join" : Str) rfl rfl (by decide)
  · rw [split_fill (tws := [[114, 97, 105, 115, 101]]) ha9 hb9 ho9 rfl (by simp) (by decide)]
    exact nr_shape (n := 1) ("raise" : Str) rfl rfl (by decide)
  · rw [split_fill (tws := [[108, 111, 119, 101, 114], [91], [49]]) ha9 hb9 ho9 rfl (by simp) (by decide)]
    exact nr_shape (n := 3) ("lower" : Str) rfl rfl (by decide)
  · rw [split_fill (tws := [[108, 101, 97, 115, 116]]) ha9 hb9 ho9 rfl (by simp) (by decide)]
    exact nr_shape (n := 1) ("least" : Str) rfl rfl (by decide)
  · rw [split_fill (tws := [[116, 117, 114, 110], [91], [93]]) ha9 hb9 ho9 rfl (by simp) (by decide)]
    exact nr_shape (n := 3) ("turn" : Str) rfl rfl (by decide)
  · rw [split_fill (tws := [[109, 111, 118, 101], [91], [49], [48], [48], [49], [48], [48], [48]]) ha9 hb9 ho9 rfl (by simp) (by decide)]
    exact nr_shape (n := 9) ("move" : Str) rfl rfl (by decide)
  · rw [split_fill (tws := [[115, 112, 101, 101, 100], [91], [93], [93]]) ha9 hb9 ho9 rfl (by simp) (by decide)]
    exact nr_shape (n := 4) ("speed" : Str) rfl rfl (by decide)
  · rw [split_fill (tws := [[99, 117, 116], [91], [49, 47, 50], [91], [93], [93]]) ha9 hb9 ho9 rfl (by simp) (by decide)]
    exact nr_shape (n := 6) ("cut" : Str) rfl rfl (by decide)
  · rw [split_fill (tws := [[116, 101, 108, 108], [91, 10]]) ha9 hb9 ho9 rfl (by simp) (by decide)]
    refine nr_word (sh := "n") "tell" 0 rfl (by decide) (by decide) (by decide) (wn_n fun g => ?_)
    have e9 : TL.tl (fw a b "" [91, 10]) = TL.tl a ++ [10] := by unfold fw; rw [tl_strL]; show fillL _ _ _ ([91] ++ [10]) = _; rw [fill_app, fill_a]; rfl
    have h9 := g.2.2 10 (by show 10 ∈ TL.tl (fw a b "" [91, 10]); rw [e9]; simp)
    omega
  · rw [split_fill (tws := [[110, 97, 109, 101, 115, 10]]) ha9 hb9 ho9 rfl (by simp) (by decide)]
    exact nr_shape (n := 1) ("names\n" : Str) rfl rfl (by decide)
theorem okW_dig {c : Nat} (h0 : 48 ≤ c) (h1 : c ≤ 57) : okW [c] := by
  have hf : figs [c] = [c] := by
    unfold figs
    rw [if_neg (by intro e; have := Option.some.inj e; omega)]
  refine ⟨by rw [hf]; simp, by rw [hf]; simp, ?_, fun h => ?_⟩
  · rw [hf]
    intro z hz
    rw [List.mem_singleton.mp hz]
    omega
  · rw [hf] at h
    rw [Option.some.inj h]
theorem ws_0 : WordV 115 ("0" : Str) (sh 0) := by
  unfold WordV
  rw [if_pos rfl]
  exact ⟨0, .inl ⟨by decide, okW_dig (c := 48) (by decide) (by decide), by decide, by decide⟩, rfl⟩
theorem ws_1 : WordV 115 ("1" : Str) (sh 1) := by
  unfold WordV
  rw [if_pos rfl]
  exact ⟨1, .inl ⟨by decide, okW_dig (c := 49) (by decide) (by decide), by decide, by decide⟩, rfl⟩
theorem ws_h : WordV 115 ("1/2" : Str) (sh (1 / 2)) := by
  unfold WordV
  rw [if_pos rfl]
  exact ⟨1 / 2, .inr ⟨[49], [50], rfl, by decide, okW_dig (by decide) (by decide), okW_dig (by decide) (by decide), by decide, by decide +kernel, by decide +kernel⟩, rfl⟩
theorem wl_0 : WordV 108 ("0" : Str) (.int 0) := by
  unfold WordV
  rw [if_neg (by decide), if_pos rfl]
  exact ⟨0, ⟨48, rfl, by decide, by decide, by decide⟩, rfl⟩
/-- a row that asks for a name that is not there -/
def Strange (bk : List (Str × List Pt)) (ws : List Str) : Prop := ∃ w ps sh, RowV ws (.tup [.str w, .fz ps]) ∧ w ≠ "curve" ∧ w ≠ "names" ∧ lkT kvs_SHAPES w = some sh ∧ ¬ Knw bk sh ps
theorem st_bad {bk : List (Str × List Pt)} {a o : Str} (ha : NameL (TL.tl a)) (hs : NameL (TL.tl o)) (hno : lkB bk o = none) : ∀ t ∈ strangersT, Strange bk (Txt.split (fillS a "" o t) " ") := by
  intro t ht
  have ha9 := name_free ha
  have hb9 := (show 32 ∉ TL.tl ("" : Str) by decide)
  have ho9 := name_free hs
  simp only [strangersT, List.mem_cons, List.not_mem_nil, or_false] at ht
  rcases ht with rfl | rfl | rfl | rfl | rfl | rfl | rfl | rfl | rfl | rfl | rfl | rfl | rfl | rfl | rfl | rfl | rfl
  · rw [split_fill (tws := [[116, 101, 108, 108], [63]]) ha9 hb9 ho9 rfl (by simp) (by decide)]
    have e : ([[116, 101, 108, 108], [63]] : List (List Nat)).map (fw a "" o) = [("tell" : Str), o] := by
      simp only [List.map_cons, List.map_nil, fw_a, fw_o]
      rfl
    rw [e]
    refine ⟨"tell", [.str o], "n", RowV_mk (sh := "n") (by decide) rfl rfl (fun i hi => match i, hi with
      | 0, _ => word_n hs), by decide, by decide, by decide, fun K => ?_⟩
    obtain ⟨m, row, e1, e2⟩ := K 0 (by simp) rfl
    cases e1
    rw [hno] at e2
    cases e2
  · rw [split_fill (tws := [[112, 111, 105, 110, 116], [63], [49, 47, 50]]) ha9 hb9 ho9 rfl (by simp) (by decide)]
    have e : ([[112, 111, 105, 110, 116], [63], [49, 47, 50]] : List (List Nat)).map (fw a "" o) = [("point" : Str), o, ("1/2" : Str)] := by
      simp only [List.map_cons, List.map_nil, fw_a, fw_o]
      rfl
    rw [e]
    refine ⟨"point", [.str o, sh (1 / 2)], "ns", RowV_mk (sh := "ns") (by decide) rfl rfl (fun i hi => match i, hi with
      | 0, _ => word_n hs
      | 1, _ => ws_h), by decide, by decide, by decide, fun K => ?_⟩
    obtain ⟨m, row, e1, e2⟩ := K 0 (by simp) rfl
    cases e1
    rw [hno] at e2
    cases e2
  · rw [split_fill (tws := [[99, 117, 116], [63], [48], [91], [91]]) ha9 hb9 ho9 rfl (by simp) (by decide)]
    have e : ([[99, 117, 116], [63], [48], [91], [91]] : List (List Nat)).map (fw a "" o) = [("cut" : Str), o, ("0" : Str), a, a] := by
      simp only [List.map_cons, List.map_nil, fw_a, fw_o]
      rfl
    rw [e]
    refine ⟨"cut", [.str o, sh 0, .str a, .str a], "nsww", RowV_mk (sh := "nsww") (by decide) rfl rfl (fun i hi => match i, hi with
      | 0, _ => word_n hs
      | 1, _ => ws_0
      | 2, _ => word_w ha
      | 3, _ => word_w ha), by decide, by decide, by decide, fun K => ?_⟩
    obtain ⟨m, row, e1, e2⟩ := K 0 (by simp) rfl
    cases e1
    rw [hno] at e2
    cases e2
  · rw [split_fill (tws := [[115, 116, 114, 101, 116, 99, 104], [63], [48], [49], [91]]) ha9 hb9 ho9 rfl (by simp) (by decide)]
    have e : ([[115, 116, 114, 101, 116, 99, 104], [63], [48], [49], [91]] : List (List Nat)).map (fw a "" o) = [("stretch" : Str), o, ("0" : Str), ("1" : Str), a] := by
      simp only [List.map_cons, List.map_nil, fw_a, fw_o]
      rfl
    rw [e]
    refine ⟨"stretch", [.str o, sh 0, sh 1, .str a], "nssw", RowV_mk (sh := "nssw") (by decide) rfl rfl (fun i hi => match i, hi with
      | 0, _ => word_n hs
      | 1, _ => ws_0
      | 2, _ => ws_1
      | 3, _ => word_w ha), by decide, by decide, by decide, fun K => ?_⟩
    obtain ⟨m, row, e1, e2⟩ := K 0 (by simp) rfl
    cases e1
    rw [hno] at e2
    cases e2
  · rw [split_fill (tws := [[116, 117, 114, 110], [63]]) ha9 hb9 ho9 rfl (by simp) (by decide)]
    have e : ([[116, 117, 114, 110], [63]] : List (List Nat)).map (fw a "" o) = [("turn" : Str), o] := by
      simp only [List.map_cons, List.map_nil, fw_a, fw_o]
      rfl
    rw [e]
    refine ⟨"turn", [.str o], "n", RowV_mk (sh := "n") (by decide) rfl rfl (fun i hi => match i, hi with
      | 0, _ => word_n hs), by decide, by decide, by decide, fun K => ?_⟩
    obtain ⟨m, row, e1, e2⟩ := K 0 (by simp) rfl
    cases e1
    rw [hno] at e2
    cases e2
  · rw [split_fill (tws := [[114, 97, 105, 115, 101], [63]]) ha9 hb9 ho9 rfl (by simp) (by decide)]
    have e : ([[114, 97, 105, 115, 101], [63]] : List (List Nat)).map (fw a "" o) = [("raise" : Str), o] := by
      simp only [List.map_cons, List.map_nil, fw_a, fw_o]
      rfl
    rw [e]
    refine ⟨"raise", [.str o], "n", RowV_mk (sh := "n") (by decide) rfl rfl (fun i hi => match i, hi with
      | 0, _ => word_n hs), by decide, by decide, by decide, fun K => ?_⟩
    obtain ⟨m, row, e1, e2⟩ := K 0 (by simp) rfl
    cases e1
    rw [hno] at e2
    cases e2
  · rw [split_fill (tws := [[108, 111, 119, 101, 114], [63]]) ha9 hb9 ho9 rfl (by simp) (by decide)]
    have e : ([[108, 111, 119, 101, 114], [63]] : List (List Nat)).map (fw a "" o) = [("lower" : Str), o] := by
      simp only [List.map_cons, List.map_nil, fw_a, fw_o]
      rfl
    rw [e]
    refine ⟨"lower", [.str o], "n", RowV_mk (sh := "n") (by decide) rfl rfl (fun i hi => match i, hi with
      | 0, _ => word_n hs), by decide, by decide, by decide, fun K => ?_⟩
    obtain ⟨m, row, e1, e2⟩ := K 0 (by simp) rfl
    cases e1
    rw [hno] at e2
    cases e2
  · rw [split_fill (tws := [[108, 101, 97, 115, 116], [63]]) ha9 hb9 ho9 rfl (by simp) (by decide)]
    have e : ([[108, 101, 97, 115, 116], [63]] : List (List Nat)).map (fw a "" o) = [("least" : Str), o] := by
      simp only [List.map_cons, List.map_nil, fw_a, fw_o]
      rfl
    rw [e]
    refine ⟨"least", [.str o], "n", RowV_mk (sh := "n") (by decide) rfl rfl (fun i hi => match i, hi with
      | 0, _ => word_n hs), by decide, by decide, by decide, fun K => ?_⟩
    obtain ⟨m, row, e1, e2⟩ := K 0 (by simp) rfl
    cases e1
    rw [hno] at e2
    cases e2
  · rw [split_fill (tws := [[115, 112, 101, 101, 100], [63], [91]]) ha9 hb9 ho9 rfl (by simp) (by decide)]
    have e : ([[115, 112, 101, 101, 100], [63], [91]] : List (List Nat)).map (fw a "" o) = [("speed" : Str), o, a] := by
      simp only [List.map_cons, List.map_nil, fw_a, fw_o]
      rfl
    rw [e]
    refine ⟨"speed", [.str o, .str a], "nw", RowV_mk (sh := "nw") (by decide) rfl rfl (fun i hi => match i, hi with
      | 0, _ => word_n hs
      | 1, _ => word_w ha), by decide, by decide, by decide, fun K => ?_⟩
    obtain ⟨m, row, e1, e2⟩ := K 0 (by simp) rfl
    cases e1
    rw [hno] at e2
    cases e2
  · rw [split_fill (tws := [[104, 117, 108, 108], [63]]) ha9 hb9 ho9 rfl (by simp) (by decide)]
    have e : ([[104, 117, 108, 108], [63]] : List (List Nat)).map (fw a "" o) = [("hull" : Str), o] := by
      simp only [List.map_cons, List.map_nil, fw_a, fw_o]
      rfl
    rw [e]
    refine ⟨"hull", [.str o], "n", RowV_mk (sh := "n") (by decide) rfl rfl (fun i hi => match i, hi with
      | 0, _ => word_n hs), by decide, by decide, by decide, fun K => ?_⟩
    obtain ⟨m, row, e1, e2⟩ := K 0 (by simp) rfl
    cases e1
    rw [hno] at e2
    cases e2
  · rw [split_fill (tws := [[109, 111, 118, 101], [63], [49], [48], [48], [49], [48], [48]]) ha9 hb9 ho9 rfl (by simp) (by decide)]
    have e : ([[109, 111, 118, 101], [63], [49], [48], [48], [49], [48], [48]] : List (List Nat)).map (fw a "" o) = [("move" : Str), o, ("1" : Str), ("0" : Str), ("0" : Str), ("1" : Str), ("0" : Str), ("0" : Str)] := by
      simp only [List.map_cons, List.map_nil, fw_a, fw_o]
      rfl
    rw [e]
    refine ⟨"move", [.str o, sh 1, sh 0, sh 0, sh 1, sh 0, sh 0], "nssssss", RowV_mk (sh := "nssssss") (by decide) rfl rfl (fun i hi => match i, hi with
      | 0, _ => word_n hs
      | 1, _ => ws_1
      | 2, _ => ws_0
      | 3, _ => ws_0
      | 4, _ => ws_1
      | 5, _ => ws_0
      | 6, _ => ws_0), by decide, by decide, by decide, fun K => ?_⟩
    obtain ⟨m, row, e1, e2⟩ := K 0 (by simp) rfl
    cases e1
    rw [hno] at e2
    cases e2
  · rw [split_fill (tws := [[115, 97, 109, 101], [91], [63]]) ha9 hb9 ho9 rfl (by simp) (by decide)]
    have e : ([[115, 97, 109, 101], [91], [63]] : List (List Nat)).map (fw a "" o) = [("same" : Str), a, o] := by
      simp only [List.map_cons, List.map_nil, fw_a, fw_o]
      rfl
    rw [e]
    refine ⟨"same", [.str a, .str o], "nn", RowV_mk (sh := "nn") (by decide) rfl rfl (fun i hi => match i, hi with
      | 0, _ => word_n ha
      | 1, _ => word_n hs), by decide, by decide, by decide, fun K => ?_⟩
    obtain ⟨m, row, e1, e2⟩ := K 1 (by simp) rfl
    cases e1
    rw [hno] at e2
    cases e2
  · rw [split_fill (tws := [[112, 97, 114, 116], [63], [91]]) ha9 hb9 ho9 rfl (by simp) (by decide)]
    have e : ([[112, 97, 114, 116], [63], [91]] : List (List Nat)).map (fw a "" o) = [("part" : Str), o, a] := by
      simp only [List.map_cons, List.map_nil, fw_a, fw_o]
      rfl
    rw [e]
    refine ⟨"part", [.str o, .str a], "nn", RowV_mk (sh := "nn") (by decide) rfl rfl (fun i hi => match i, hi with
      | 0, _ => word_n hs
      | 1, _ => word_n ha), by decide, by decide, by decide, fun K => ?_⟩
    obtain ⟨m, row, e1, e2⟩ := K 0 (by simp) rfl
    cases e1
    rw [hno] at e2
    cases e2
  · rw [split_fill (tws := [[98, 111, 120], [63]]) ha9 hb9 ho9 rfl (by simp) (by decide)]
    have e : ([[98, 111, 120], [63]] : List (List Nat)).map (fw a "" o) = [("box" : Str), o] := by
      simp only [List.map_cons, List.map_nil, fw_a, fw_o]
      rfl
    rw [e]
    refine ⟨"box", [.str o], "n", RowV_mk (sh := "n") (by decide) rfl rfl (fun i hi => match i, hi with
      | 0, _ => word_n hs), by decide, by decide, by decide, fun K => ?_⟩
    obtain ⟨m, row, e1, e2⟩ := K 0 (by simp) rfl
    cases e1
    rw [hno] at e2
    cases e2
  · rw [split_fill (tws := [[106, 111, 105, 110], [91], [63]]) ha9 hb9 ho9 rfl (by simp) (by decide)]
    have e : ([[106, 111, 105, 110], [91], [63]] : List (List Nat)).map (fw a "" o) = [("join" : Str), a, o] := by
      simp only [List.map_cons, List.map_nil, fw_a, fw_o]
      rfl
    rw [e]
    refine ⟨"join", [.str a, .str o], "nn", RowV_mk (sh := "nn") (by decide) rfl rfl (fun i hi => match i, hi with
      | 0, _ => word_n ha
      | 1, _ => word_n hs), by decide, by decide, by decide, fun K => ?_⟩
    obtain ⟨m, row, e1, e2⟩ := K 1 (by simp) rfl
    cases e1
    rw [hno] at e2
    cases e2
  · rw [split_fill (tws := [[109, 101, 101, 116], [63], [91], [48]]) ha9 hb9 ho9 rfl (by simp) (by decide)]
    have e : ([[109, 101, 101, 116], [63], [91], [48]] : List (List Nat)).map (fw a "" o) = [("meet" : Str), o, a, ("0" : Str)] := by
      simp only [List.map_cons, List.map_nil, fw_a, fw_o]
      rfl
    rw [e]
    refine ⟨"meet", [.str o, .str a, .int 0], "nnl", RowV_mk (sh := "nnl") (by decide) rfl rfl (fun i hi => match i, hi with
      | 0, _ => word_n hs
      | 1, _ => word_n ha
      | 2, _ => wl_0), by decide, by decide, by decide, fun K => ?_⟩
    obtain ⟨m, row, e1, e2⟩ := K 0 (by simp) rfl
    cases e1
    rw [hno] at e2
    cases e2
  · rw [split_fill (tws := [[115, 97, 109, 101], [63], [63]]) ha9 hb9 ho9 rfl (by simp) (by decide)]
    have e : ([[115, 97, 109, 101], [63], [63]] : List (List Nat)).map (fw a "" o) = [("same" : Str), o, o] := by
      simp only [List.map_cons, List.map_nil, fw_a, fw_o]
      rfl
    rw [e]
    refine ⟨"same", [.str o, .str o], "nn", RowV_mk (sh := "nn") (by decide) rfl rfl (fun i hi => match i, hi with
      | 0, _ => word_n hs
      | 1, _ => word_n hs), by decide, by decide, by decide, fun K => ?_⟩
    obtain ⟨m, row, e1, e2⟩ := K 0 (by simp) rfl
    cases e1
    rw [hno] at e2
    cases e2
theorem split_one {x : Str} (h : 32 ∉ TL.tl x) : Txt.split x " " = [x] := by
  have h9 := split_ws (ws := [x]) (by simp) (fun y hy => by rw [List.mem_singleton.mp hy]; exact h)
  have e9 : Str.join " " [x] = x := TL.ext_tl (by rw [TL.tl_join]; rfl)
  rw [e9] at h9
  exact h9
theorem meet_bad {a b : Str} (ha : NameL (TL.tl a)) (hb : NameL (TL.tl b)) : ∀ o ∈ oddsM, NoR (Txt.split (("meet " : Str) ++ a ++ " " ++ b ++ " " ++ o) " ") := by
  intro o ho
  have e1 : ("meet " : Str) ++ a ++ " " ++ b = Str.join " " ["meet", a, b] := TL.ext_tl (by rw [TL.tl_join, TL.tl_append, TL.tl_append, TL.tl_append, List.append_assoc, List.append_assoc]; rfl)
  have e2 : Txt.split (("meet " : Str) ++ a ++ " " ++ b ++ " " ++ o) " " = [("meet" : Str), a, b] ++ Txt.split o " " := by
    rw [split_two, e1, split_ws (by simp)]
    intro x hx
    simp only [List.mem_cons, List.not_mem_nil, or_false] at hx
    rcases hx with rfl | rfl | rfl
    · decide
    · exact name_free ha
    · exact name_free hb
  rw [e2]
  have one : ∀ o : Str, 32 ∉ TL.tl o → levelb (TL.tl o) = false → NoR ([("meet" : Str), a, b] ++ Txt.split o " ") := fun o h1 h2 => by
    rw [split_one h1]
    exact nr_word (sh := "nnl") "meet" 2 rfl (by decide) (by decide) (by decide) (wn_l h2)
  simp only [oddsM, List.mem_cons, List.not_mem_nil, or_false] at ho
  rcases ho with rfl | rfl | rfl | rfl | rfl | rfl | rfl | rfl
  all_goals first
    | exact one _ (by decide) (by decide)
    | (have e3 : Txt.split (" 0" : Str) " " = [("" : Str), "0"] := by
        have h9 := split_ws (ws := [("" : Str), "0"]) (by simp) (by decide)
        have e9 : Str.join " " [("" : Str), "0"] = (" 0" : Str) := TL.ext_tl (by rw [TL.tl_join]; rfl)
        rw [e9] at h9
        exact h9
       rw [e3]
       exact nr_shape (n := 5) "meet" rfl rfl (by decide))
theorem curve_bad {a : Str} (ha : NameL (TL.tl a)) : ∀ o ∈ oddsC, NoR (Txt.split (("curve " : Str) ++ a ++ " " ++ o) " ") := by
  intro o ho
  have e1 : ("curve " : Str) ++ a = Str.join " " ["curve", a] := TL.ext_tl (by rw [TL.tl_join, TL.tl_append]; rfl)
  have e2 : Txt.split (("curve " : Str) ++ a ++ " " ++ o) " " = ("curve" : Str) :: a :: Txt.split o " " := by
    rw [split_two, e1, split_ws (by simp)]
    · rfl
    · intro x hx
      simp only [List.mem_cons, List.not_mem_nil, or_false] at hx
      rcases hx with rfl | rfl
      · decide
      · exact name_free ha
  rw [e2]
  have h0 := split_pos1 o
  refine nr_cbody rfl (by rw [List.length_cons, List.length_cons]; omega) fun row g => ?_
  exact no_c (oddsC_ok o ho).1 row (rdC_join g)
def ct_moved : Ct := fun ds A k _ => ∃ (p b : Pt) (t : Rat) (m n : Nat), ds = [pt p, pt b, sh t] ∧ SzP m p ∧ SzP n b ∧ Sz n t ∧ m + 2 * n ≤ 9000 ∧ k (pt (p.1 + t * b.1, p.2 + t * b.2)) A
theorem ok_moved (T : Txt K mg) : Fn P w K mg base "moved" 4 ct_moved := by
  refine fn_mk T.d_moved sc_moved (fun ds A k e h => ?_) fun f cdv A0 outer s H E hr hp htk ds A kk ee h => ?_
  · obtain ⟨p, q, t, m, n, rfl, _⟩ := h; rfl
  obtain ⟨p, b, t, m, n, rfl, hp', hb', ht', hmn, hk⟩ := h
  exact as_retv (av_tup (avs_cons (av_call (d := sh (p.1 + t * b.1)) (ok_plus T) (hr.mono (by decide)) rfl (avs_cons (av_ixT (av_var (i := 0) rfl (.inl rfl) rfl) av_int rfl) (avs_cons (av_call (d := sh (t * b.1)) (ok_times T) (hr.mono (by decide)) rfl (avs_cons (av_var (i := 2) rfl (.inl rfl) rfl) (avs_cons (av_ixT (av_var (i := 1) rfl (.inl rfl) rfl) av_int rfl) avs_nil)) ⟨_, _, _, _, rfl, ht', hb'.1, by omega, rfl, Ext.refl _⟩) avs_nil)) ⟨_, _, _, _, rfl, hp'.1, sz_mul ht' hb'.1, by omega, rfl, Ext.refl _⟩)
    (avs_cons (av_call (d := sh (p.2 + t * b.2)) (ok_plus T) (hr.mono (by decide)) rfl (avs_cons (av_ixT (av_var (i := 0) rfl (.inl rfl) rfl) av_int rfl) (avs_cons (av_call (d := sh (t * b.2)) (ok_times T) (hr.mono (by decide)) rfl (avs_cons (av_var (i := 2) rfl (.inl rfl) rfl) (avs_cons (av_ixT (av_var (i := 1) rfl (.inl rfl) rfl) av_int rfl) avs_nil)) ⟨_, _, _, _, rfl, ht', hb'.2, by omega, rfl, Ext.refl _⟩) avs_nil)) ⟨_, _, _, _, rfl, hp'.2, sz_mul ht' hb'.2, by omega, rfl, Ext.refl _⟩) avs_nil))) hk
def ct_ways : Ct := fun ds A k _ => ∃ (n : Nat), ds = [.int (n : Int)] ∧ n ≤ 60 ∧ k (.fz (((List.range (n + 1)).map fun k => ((ch n k : Nat) : Int)).map D.int)) A
theorem ok_ways (T : Txt K mg) : Fn P w K mg base "ways" 1 ct_ways := by
  refine fn_mk T.d_ways sc_ways (fun ds A k e h => ?_) fun f cdv A0 outer s H E hr hp htk ds A kk ee h => ?_
  · obtain ⟨n, rfl, _⟩ := h; rfl
  obtain ⟨n, rfl, hn, hk⟩ := h
  refine as_set (i := 1) sc_ways.nd rfl (.inl rfl) (AL.ae (al_lst (ds := ([1] : List Int).map D.int) (avs_c av_int avs_nil)) fun q hq => ?_)
  refine as_cons (a1_for hp rfl (ai_rng rfl T.m_range (av_var (i := 0) rfl (.inl rfl) rfl) (by walk_at "om") (by walk_at "om") ⟨fun i ρ A' => ∃ (y : Option D), ρ = [some (.int (n : Int)), some (.ref q), y] ∧ A' = aupd A q (.lst (((List.range (i + 1)).map fun k => ((ch n k : Nat) : Int)).map D.int)), ⟨_, rfl, by show aupd A q (.lst [D.int 1]) = aupd A q (.lst [D.int ((ch n 0 : Nat) : Int)]); rw [ch_zero]; rfl⟩, fun i ρ A' hle hI => trivial, fun i ρ A' hi hI => ⟨_, _, (ag_name (i := 2) sc_ways.nd rfl (.inl rfl)), ?_⟩, fun ρ A' hI => ?_⟩))
  · skip
    obtain ⟨y, rfl, rfl⟩ := hI
    have hi' : i < n := by omega
    have hc : ((ch n i : Nat) : Int).natAbs < 2 ^ 62 := by
      rw [Int.natAbs_natCast]
      exact Nat.lt_of_le_of_lt (ch_le n i) (Nat.pow_lt_pow_right (by decide) (by omega))
    have hl : ((List.range (i + 1)).map fun k => ((ch n k : Nat) : Int)).getD (((List.range (i + 1)).map fun k => ((ch n k : Nat) : Int)).length - 1) 0 = ((ch n i : Nat) : Int) := by simp
    refine as_cons (a1_expr (ae_append (AV.ae (av_var (i := 1) rfl (.inl rfl) rfl) ⟨_, rfl, ⟨_, aupd_same⟩, AV.ae (av_div (av_mul (av_ixDB (f := D.int) (0 : Int) (av_var (i := 1) rfl (.inl rfl) rfl) (by walk_at "il") (av_neg av_int) (n := 1) rfl (by decide) (by simp)) (av_sub (av_var (i := 0) rfl (.inl rfl) rfl) (av_var (i := 2) rfl (.inl rfl) rfl)) (mulx (by rw [hl]; exact hc) (bt_small 62 (by omega) (by omega)) (by decide))) (av_add (av_var (i := 2) rfl (.inl rfl) rfl) av_int) (divw (b := 64) (by omega) (bt_small 64 (by omega) (by omega)) (by decide) (by decide))) ⟨_, aupd_same, (by rw [List.length_map, List.length_map, List.length_range]; exact small1000 (by omega)), ?_⟩⟩)))
    exact as_nil ⟨_, rfl, by rw [aupd_aupd, map_snoc, hl, ch_div, List.range_succ (n := i + 1), List.map_append (f := fun k => ((ch n k : Nat) : Int))]; rfl⟩
  obtain ⟨y, rfl, rfl⟩ := hI
  refine as_fz 1 rfl hq ?_
  refine as_retv (av_var (i := 1) rfl (.inl rfl) rfl) ?_
  exact hk
def ct_sum_of : Ct := fun ds A k _ => ∃ (d_row : D) (row : List Pt) (ts : (List Rat)) (m n : Nat), ds = [d_row, .fz (ts.map sh)] ∧ (IsL A d_row (row.map pt)) ∧ (∀ i, i ≤ ts.length → SzP m (sumR row ts i)) ∧ (∀ p ∈ row, SzP n p) ∧ (∀ t ∈ ts, Sz n t) ∧ (m + 2 * n ≤ 9000) ∧ (ts.length ≤ row.length) ∧ k (pt (sumR row ts ts.length)) A
theorem ok_sum_of (T : Txt K mg) : Fn P w K mg base "sum_of" 5 ct_sum_of := by
  refine fn_mk T.d_sum_of sc_sum_of (fun ds A k e h => ?_) fun f cdv A0 outer s H E hr hp htk ds A kk ee h => ?_
  · obtain ⟨d_row, row, ts, m, n, rfl, _⟩ := h; rfl
  obtain ⟨d_row, row, ts, m, n, rfl, hL_row, hz, hr_, ht, hm, hl, hk⟩ := h
  refine as_set (i := 2) sc_sum_of.nd rfl (.inl rfl) (AV.ae (av_tup (avs_c (AV.is (av_glob rfl T.g_NOUGHT_curves (v := .ref T.c_NOUGHT_curves) rfl (fun H => T.r_NOUGHT_curves H)) tup_0) (avs_c (AV.is (av_glob rfl T.g_NOUGHT_curves (v := .ref T.c_NOUGHT_curves) rfl (fun H => T.r_NOUGHT_curves H)) tup_0) avs_nil))) ?_)
  refine as_cons (a1_for hp rfl (ai_zipD ((0, 0) : Pt) (0 : Rat) rfl T.m_zip (avs_c (av_var (i := 0) rfl (.inl rfl) rfl) (avs_c (av_var (i := 1) rfl (.inl rfl) rfl) avs_nil)) (by walk_at "il") IsL.fz ⟨fun i ρ A' => ∃ (y : Option D) (y2 : Option D) (s_ : Pt), ρ = [some (d_row), some (.fz (ts.map sh)), some (pt s_), y, y2] ∧ A = A' ∧ (s_ = sumR row ts i), ⟨_, _, (0, 0), rfl, rfl, rfl⟩, fun i ρ A' hle hI => by obtain ⟨_, _, _, _, e, _⟩ := hI; rw [← e]; exact ⟨hL_row, IsL.fz⟩, fun i ρ A' hi hI => ⟨_, _, (ag_tup rfl (ags_cons (ag_name (i := 3) sc_sum_of.nd rfl (.inl rfl)) (ags_cons (ag_name (i := 4) sc_sum_of.nd rfl (.inl rfl)) ags_nil))), ?_⟩, fun ρ A' hI => ?_⟩))
  · skip
    obtain ⟨y, y2, s_, rfl, rfl, hs⟩ := hI
    have hi1 : i < ts.length := by omega
    have hi2 : i < row.length := by omega
    refine as_setv (f := pt) (i := 2) sc_sum_of.nd rfl (.inl rfl) (AE.av (ae_call (ok_moved T) (hr.mono (by decide)) rfl (AVs.aes (avs_c (av_var (i := 2) rfl (.inl rfl) rfl) (avs_c (av_var (i := 3) rfl (.inl rfl) rfl) (avs_c (av_var (i := 4) rfl (.inl rfl) rfl) avs_nil))) ⟨_, _, _, m, n, rfl, by rw [hs]; exact hz i (by omega), getD_in hr_ hi2, getD_in ht hi1, hm, ⟨rfl, Ext.refl _⟩⟩))) fun s2 hs2 => ?_
    exact as_nil ⟨_, _, _, rfl, rfl, by rw [hs2, hs]; rfl⟩
  obtain ⟨y, y2, s_, rfl, rfl, hs⟩ := hI
  refine as_retv (av_var (i := 2) rfl (.inl rfl) rfl) ?_
  rw [hs, show min row.length ts.length = ts.length by omega]
  exact hk
def ct_powers : Ct := fun ds A k _ => ∃ (d_row : D) (row : List Pt) (m : Nat), ds = [d_row] ∧ (IsL A d_row (row.map pt)) ∧ (Rw m row) ∧ (3 * m + 500 ≤ 9000) ∧ (27 ≤ m) ∧ (0 < row.length) ∧ (row.length ≤ 12) ∧ ∀ p, A p = none → k (.ref p) (aupd A p (.lst ((powersR row).map pt)))
theorem ok_powers (T : Txt K mg) : Fn P w K mg base "powers" 6 ct_powers := by
  refine fn_mk T.d_powers sc_powers (fun ds A k e h => ?_) fun f cdv A0 outer s H E hr hp htk ds A kk ee h => ?_
  · obtain ⟨d_row, row, m, rfl, _⟩ := h; rfl
  obtain ⟨d_row, row, m, rfl, hL_row, hR, hm, hm27, hl0, hl, hk⟩ := h
  obtain ⟨N, hN⟩ : ∃ N, row.length = N + 1 := ⟨row.length - 1, by omega⟩
  refine as_setv (f := D.int) (i := 1) sc_powers.nd rfl (.inl rfl) (av_sub (av_lenD rfl T.m_len (av_var (i := 0) rfl (.inl rfl) rfl) (by walk_at "il")) av_int) fun n hn => ?_
  refine AS.ro (ρ' := [some (d_row), some (.int n), none, none, none, none, none, none]) ?_
  have en : n = (N : Int) := by omega
  subst en
  refine AS.ro (ρ' := [some (d_row), some (.int (N : Int)), none, none, none, none, none, none]) ?_
  refine as_set (i := 2) sc_powers.nd rfl (.inl rfl) (AL.ae (al_lst (ds := []) avs_nil) fun q hq => ?_)
  refine AS.ro (ρ' := [some (d_row), some (.int (N : Int)), some (.ref q), none, none, none, none, none]) ?_
  refine as_cons (a1_for hp rfl (ai_enumD (0 : Int) rfl T.m_enumerate (AE.av (ae_call (ok_ways T) (hr.mono (by decide)) rfl (AVs.aes (avs_c (av_var (i := 1) rfl (.inl rfl) rfl) avs_nil) ⟨N, rfl, by omega, ⟨rfl, Ext.refl _⟩⟩))) IsL.fz ⟨fun i ρ A' => ∃ (y : Option D) (y2 : Option D) (y3 : Option D) (y4 : Option D) (y5 : Option D), ρ = [some (d_row), some (.int (N : Int)), some (.ref q), y, y2, y3, y4, y5] ∧ A' = aupd A q (.lst ((prs (fun k => (ch N k : Rat) * dn k (px row) 0) (fun k => (ch N k : Rat) * dn k (py row) 0) i).map pt)), ⟨_, _, _, _, _, rfl, rfl⟩, fun i ρ A' hle hI => IsL.fz, fun i ρ A' hi hI => ⟨_, _, (ag_tup rfl (ags_cons (ag_name (i := 3) sc_powers.nd rfl (.inl rfl)) (ags_cons (ag_name (i := 4) sc_powers.nd rfl (.inl rfl)) ags_nil))), ?_⟩, fun ρ A' hI => ?_⟩))
  · skip
    obtain ⟨y, y2, y3, y4, y5, rfl, rfl⟩ := hI
    have hi' : i < N + 1 := by simpa using hi
    rw [wy_get hi']
    refine AS.ro (ρ' := [some (d_row), some (.int (N : Int)), some (.ref q), some (.int (i : Int)), some (.int ((ch N i : Nat) : Int)), y3, y4, y5]) ?_
    refine as_set (i := 5) sc_powers.nd rfl (.inl rfl) (AL.ae (al_lst (ds := []) avs_nil) fun z hz => ?_)
    refine AS.ro (ρ' := [some (d_row), some (.int (N : Int)), some (.ref q), some (.int (i : Int)), some (.int ((ch N i : Nat) : Int)), some (.ref z), y4, y5]) ?_
    refine as_cons (a1_for hp rfl (ai_enumD (0 : Int) rfl T.m_enumerate (AE.av (ae_call (ok_ways T) (hr.mono (by decide)) rfl (AVs.aes (avs_c (av_var (i := 3) rfl (.inl rfl) rfl) avs_nil) ⟨i, rfl, by omega, ⟨rfl, Ext.refl _⟩⟩))) IsL.fz ⟨fun j ρ A' => ∃ (y6 : Option D) (y7 : Option D), ρ = [some (d_row), some (.int (N : Int)), some (.ref q), some (.int (i : Int)), some (.int ((ch N i : Nat) : Int)), some (.ref z), y6, y7] ∧ A' = aupd (aupd A q (.lst ((prs (fun k => (ch N k : Rat) * dn k (px row) 0) (fun k => (ch N k : Rat) * dn k (py row) 0) i).map pt))) z (.lst ((partsR N i j).map sh)), ⟨_, _, rfl, rfl⟩, fun j ρ A' hle hI => IsL.fz, fun j ρ A' hj hI => ⟨_, _, (ag_tup rfl (ags_cons (ag_name (i := 6) sc_powers.nd rfl (.inl rfl)) (ags_cons (ag_name (i := 7) sc_powers.nd rfl (.inl rfl)) ags_nil))), ?_⟩, fun ρ A' hI => ?_⟩))
    · skip
      obtain ⟨y6, y7, rfl, rfl⟩ := hI
      have hj' : j < i + 1 := by simpa using hj
      rw [wy_get hj']
      refine AS.ro (ρ' := [some (d_row), some (.int (N : Int)), some (.ref q), some (.int (i : Int)), some (.int ((ch N i : Nat) : Int)), some (.ref z), some (.int (j : Int)), some (.int ((ch i j : Nat) : Int))]) ?_
      have h1 : ((ch N i : Nat) : Int).natAbs < 2 ^ 13 := by rw [Int.natAbs_natCast]; exact Nat.lt_of_le_of_lt (ch_le _ _) (Nat.pow_lt_pow_right (by decide) (by omega))
      have h2 : ((ch i j : Nat) : Int).natAbs < 2 ^ 13 := by rw [Int.natAbs_natCast]; exact Nat.lt_of_le_of_lt (ch_le _ _) (Nat.pow_lt_pow_right (by decide) (by omega))
      refine as_cons (a1_expr (ae_append (AV.ae (av_var (i := 5) rfl (.inl rfl) rfl) ⟨_, rfl, ⟨_, aupd_same⟩, AV.ae (AV.is (av_tup (avs_c (av_mul (av_mul (av_var (i := 4) rfl (.inl rfl) rfl) (av_var (i := 7) rfl (.inl rfl) rfl) (mulx h1 h2 (by decide))) (av_sub av_int (av_mulS av_int (av_mod (av_sub (av_var (i := 3) rfl (.inl rfl) rfl) (av_var (i := 6) rfl (.inl rfl) rfl)) av_int (by walk_at "sz")) (.inl (by decide)))) (mulx (bt_mul h1 h2) (bt_small 8 (by omega) (by omega)) (by decide))) (avs_c av_int avs_nil))) (shI _)) ⟨_, aupd_same, (by rw [List.length_map, partsR_len]; exact small1000 (by omega)), ?_⟩⟩)))
      refine as_nil ⟨_, _, rfl, ?hp2⟩
      rw [aupd_aupd, map_snoc]
      unfold partsR
      rw [List.range_succ, List.map_append (f := fun a => ((partI N i a : Int) : Rat))]
      rfl
    obtain ⟨y6, y7, rfl, rfl⟩ := hI
    rw [show (((List.range (i + 1)).map fun k => ((ch i k : Nat) : Int))).length = i + 1 by simp]
    refine as_fz 5 rfl hz ?_
    refine AS.ro (ρ' := [some (d_row), some (.int (N : Int)), some (.ref q), some (.int (i : Int)), some (.int ((ch N i : Nat) : Int)), some (.fz ((partsR N i (i + 1)).map sh)), y6, y7]) ?_
    have zp : ∀ t ∈ partsR N i (i + 1), Sz 27 t := fun t ht => by
      unfold partsR at ht
      rw [List.mem_map] at ht
      obtain ⟨a, _, rfl⟩ := ht
      exact sz_int (partI_bt (by omega) (by omega)) (by decide)
    refine as_cons (a1_expr (ae_append (AV.ae (av_var (i := 2) rfl (.inl rfl) rfl) ⟨_, rfl, ⟨_, aupd_same⟩, AV.ae (AE.av (ae_call (ok_sum_of T) (hr.mono (by decide)) rfl (AVs.aes (avs_c (av_var (i := 0) rfl (.inl rfl) rfl) (avs_c (av_var (i := 5) rfl (.inl rfl) rfl) avs_nil)) ⟨_, row, partsR N i (i + 1), m + 366, m, rfl, hL_row.ext (Ext.new hq), fun j hj => (hR.sum (l := 12) zp (by rw [partsR_len]; omega) (by rw [partsR_len]; omega) j hj).up (by omega), hR.sz, fun t ht => (zp t ht).up hm27, by omega, by rw [partsR_len]; omega, ⟨rfl, Ext.refl _⟩⟩))) ⟨_, aupd_same, (by rw [List.length_map, prs_len]; exact small1000 (by omega)), ?_⟩⟩)))
    refine as_nil ⟨_, _, _, _, _, rfl, ?hp⟩
    rw [aupd_aupd, map_snoc, sum_parts (by omega), ← prs_succ]
  obtain ⟨y, y2, y3, y4, y5, rfl, rfl⟩ := hI
  rw [show (((List.range (N + 1)).map fun k => ((ch N k : Nat) : Int))).length = N + 1 by simp]
  have e : powersR row = prs (fun k => (ch N k : Rat) * dn k (px row) 0) (fun k => (ch N k : Rat) * dn k (py row) 0) (N + 1) := by unfold powersR; rw [hN, Nat.add_sub_cancel]
  rw [← e]
  refine as_retv (av_var (i := 2) rfl (.inl rfl) rfl) (hk q hq)
def ct_lowered (C : Addr) : Ct := fun ds A k e => ∃ (d_row : D) (row : List Pt) (m : Nat), ds = [d_row] ∧ IsL A d_row (row.map pt) ∧ Rw m row ∧ 3 * m + 600 ≤ 9000 ∧ 27 ≤ m ∧ row.length = 1 ∧ e (.ref C) A
theorem ok_lowered (T : Txt K mg) : Fn P w K mg base "lowered" 7 (ct_lowered T.C_NoLower) := by
  refine fn_mk T.d_lowered sc_lowered (fun ds A k e h => ?_) fun f cdv A0 outer s H E hr hp htk ds A kk ee h => ?_
  · obtain ⟨d_row, row, m, rfl, _⟩ := h; rfl
  obtain ⟨d_row, row, m, rfl, hL_row, hR, hm, hm27, hl, he⟩ := h
  refine as_set (i := 1) sc_lowered.nd rfl (.inl rfl) (AV.ae (AE.av (AE.frz (ae_call (ok_powers T) (hr.mono (by decide)) rfl (AVs.aes (avs_c (av_var (i := 0) rfl (.inl rfl) rfl) avs_nil) ⟨_, row, m, rfl, hL_row, hR, by omega, hm27, by omega, by omega, fun q hq => fz_k hq ⟨rfl, Ext.refl _⟩⟩)))) ?_)
  have hpl := powersR_len row
  refine as_if (AW.at (aw_or (at_eq (av_lenD rfl T.m_len (av_var (i := 1) rfl (.inl rfl) rfl) IsL.fz) av_int) fun _ => (aw_or1 (at_neE eP hr (av_ixDB (f := pt) ((0, 0) : Pt) (av_var (i := 1) rfl (.inl rfl) rfl) IsL.fz (av_neg av_int) (n := 1) rfl (by decide) (by walk_at "om")) (AV.is (av_glob rfl T.g_NOUGHT_raising (v := .ref T.c_NOUGHT_raising) rfl (fun H => T.r_NOUGHT_raising H)) (show _ = pt (0, 0) from rfl)))))) (fun hb => ?_) (fun hb => ?_)
  · exact as_cons (a1_raiseF T.e_NoLower rfl htk rfl he)
  rw [Bool.or_eq_false_iff] at hb
  exact absurd (show (((powersR row).length : Nat) : Int) = 1 by omega) (of_decide_eq_false hb.1)
theorem len_cat (x y : Str) : (x ++ y).length = x.length + y.length := by rw [TL.len_tl, TL.tl_append, List.length_append, ← TL.len_tl, ← TL.len_tl]
theorem x_tell (n : Str) : ("tell " : Str) ++ n = Str.join " " ["tell", n] := TL.ext_tl (by rw [TL.tl_append, TL.tl_join]; rfl)
theorem x_curve (n : Str) {row : List Pt} (h : 0 < row.length) : ("curve " : Str) ++ n ++ (" " : Str) ++ cvT row = Str.join " " ("curve" :: n :: row.map ptT) := TL.ext_tl (by
  obtain ⟨p, r, rfl⟩ : ∃ p r, row = p :: r := by cases row with | nil => cases h | cons p r => exact ⟨p, r, rfl⟩
  rw [TL.tl_append, TL.tl_append, TL.tl_append, TL.tl_join, List.append_assoc, List.append_assoc]
  show _ ++ (_ ++ (_ ++ TL.tl (Str.join " " _))) = _
  rw [TL.tl_join]
  rfl)
theorem sp_n {w n : Str} (hw : 32 ∉ TL.tl w) (hn : NameL (TL.tl n)) : Txt.split (Str.join " " [w, n]) " " = [w, n] := split_ws (by simp) fun x hx => by
  simp only [List.mem_cons, List.not_mem_nil, or_false] at hx
  rcases hx with rfl | rfl
  · exact hw
  · exact name_free hn
section
variable {X : Cx} {ρ : Ro} {A : AH} {a b : Expr} {pos : Pos} {k : AK} {d d' : D}
/-- lists compared within an except suite -/
theorem ae_eqPu (hu : X.A.units + 64 < cLine) (h : AE X a ρ A fun x A1 => AE X b ρ A1 fun y A2 => ∃ p p', Py A2 x p ∧ Py A2 y p' ∧ SeqAt.shaped p = true ∧ SeqAt.shaped p' = true ∧ k (.bl (PyData.eqv p p')) A2) : AE X (.Compare a [.Eq] [b] pos) ρ A k :=
  ae_cmpE (op_eqD hu) (nomark _) (h.mono fun x A1 h1 => h1.mono fun y A2 ⟨p, p', h2, h3, s, s', k2⟩ v u H r1 r2 l Q q => ⟨p, p', h2.dp l r1, h3.dp l r2, s, s', q _ H _ A2 (TS.refl H) (.bl _) l k2⟩)
theorem av_eqLu {α : Type} [DecidableEq α] (e : Enc α) {xs ys : List α} (hu : X.A.units + 64 < cLine) (ha : AV X a ρ A d) (hb : AV X b ρ A d') (h : IsL A d (xs.map e.d)) (h' : IsL A d' (ys.map e.d)) : AV X (.Compare a [.Eq] [b] pos) ρ A (.bl (decide (xs = ys))) := by
  rw [← eqvL e]
  exact AE.av (ae_eqPu hu (ha.ae (hb.ae ⟨_, _, pyL e h, pyL e h', shpL e xs, shpL e ys, rfl, Ext.refl _⟩)))
end
/-- what is no text -/
def NoS (d : D) : Prop := ∃ Ty, (∀ A, TyD A d Ty) ∧ kitB Ty "str" = some false
def ct_read_row0 (N : Addr) : Ct := fun ds A _ e => ∃ (d : D), ds = [d] ∧ NoS d ∧ e (.ref N) A
theorem ok_read_row0 (T : Txt K mg) : Fn P w K mg base "read_row" 1 (ct_read_row0 T.C_NoText) := by
  refine fn_mk T.d_read_row sc_read_row (fun ds A k e h => ?_) fun f cdv A0 outer s H E hr hp htk ds A kk ee h => ?_
  · obtain ⟨d, rfl, _⟩ := h; rfl
  obtain ⟨d, rfl, ⟨Ty, hT, hk⟩, he⟩ := h
  refine as_if (bb := true) (AT.is (at_not (at_val (av_isi rfl T.m_isinstance (avs_c (av_var (i := 0) rfl (.inl rfl) rfl) (avs_c (av_ty rfl T.m_str bo_str) avs_nil)) (hT _) hk))) (by rfl)) (fun _ => ?_) (fun hb => nomatch hb)
  exact as_cons (a1_raiseF T.e_NoText rfl htk rfl he)
def ct_say0 (N : Addr) : Ct := fun ds A _ e => ∃ (d0 d : D), ds = [d0, d] ∧ NoS d ∧ e (.ref N) A
theorem ok_say0 (T : Txt K mg) : Mt P w K mg base T.C_Desk "say" 2 (ct_say0 T.C_NoText) := by
  refine mt_mk T.d_Desk_say sc_Desk_say (fun ds A k e h => ?_) fun f cdv A0 outer s H E hr hp htk ds A kk ee h => ?_
  · obtain ⟨d0, d, rfl, _⟩ := h; rfl
  obtain ⟨d0, d, rfl, hN, he⟩ := h
  exact as_cons (a1_asgx (is := [2, 3]) (aex_call (ok_read_row0 T) htk (hr.mono (by decide)) rfl (AVs.aes (avs_c (av_var (i := 1) rfl (.inl rfl) rfl) avs_nil) ⟨d, rfl, hN, he⟩)))
def ct_changedR (C M L : Addr) : Ct := fun ds A _ e => ∃ (p : Addr) (n : Str) (row : List Pt), (∃ y b, A p = some (.ins C y [("book", .ref b)])) ∧ ((ds = [.ref p, .str "raise", fzs pt row, .fz [.str n]] ∧ row.length = 12 ∧ (∀ p ∈ row, SzP 200 p) ∧ e (.ref M) A) ∨ (ds = [.ref p, .str "lower", fzs pt row, .fz [.str n]] ∧ row.length = 1 ∧ Rw 200 row ∧ e (.ref L) A))
theorem ok_changedR (T : Txt K mg) : Mt P w K mg base T.C_Desk "changed" 9 (ct_changedR T.C_Desk T.C_TooMany T.C_NoLower) := by
  refine mt_mk T.d_Desk_changed sc_Desk_changed (fun ds A k e h => ?_) fun f cdv A0 outer s H E hr hp htk ds A kk ee h => ?_
  · obtain ⟨p, n, row, _, ⟨rfl, _⟩ | ⟨rfl, _⟩⟩ := h <;> rfl
  obtain ⟨p, n, row, ⟨y, b, h1⟩, ⟨rfl, hl, hz, he⟩ | ⟨rfl, hl, hR, he⟩⟩ := h
  · refine as_if (bb := false) (AT.is (at_eqS (av_var (i := 1) rfl (.inl rfl) rfl) av_str) (by rfl)) (fun h => nomatch h) (fun _ => as_end ?_)
    refine as_if (bb := false) (AT.is (at_eqS (av_var (i := 1) rfl (.inl rfl) rfl) av_str) (by rfl)) (fun h => nomatch h) (fun _ => as_end ?_)
    refine as_if (bb := false) (AT.is (at_eqS (av_var (i := 1) rfl (.inl rfl) rfl) av_str) (by rfl)) (fun h => nomatch h) (fun _ => as_end ?_)
    refine as_if (bb := false) (AT.is (at_eqS (av_var (i := 1) rfl (.inl rfl) rfl) av_str) (by rfl)) (fun h => nomatch h) (fun _ => as_end ?_)
    refine as_if (bb := true) (AT.is (at_eqS (av_var (i := 1) rfl (.inl rfl) rfl) av_str) (by rfl)) (fun _ => ?_) (fun h => nomatch h)
    exact as_cons (a1_retx (aex_mtA (ok_Desk_put T) htk T.l_Desk.c (hr.mono (by decide)) (av_var (i := 0) rfl (.inl rfl) rfl) h1 rfl (aesx_cons (AE.aex (AV.ae (AV.is (av_ixN (f := id) D.non (AV.is (av_var (i := 3) rfl (.inl rfl) rfl) (show _ = D.fz ([D.str n].map id) from rfl)) av_int (n := 0) rfl (by simp)) (show _ = D.str n from rfl)) (aesx_cons (aex_call (ok_raised T) htk (hr.mono (by decide)) rfl (AVs.aes (avs_c (av_var (i := 2) rfl (.inl rfl) rfl) avs_nil) ⟨row, rfl, hl, he⟩))))))))
  · refine as_if (bb := false) (AT.is (at_eqS (av_var (i := 1) rfl (.inl rfl) rfl) av_str) (by rfl)) (fun h => nomatch h) (fun _ => as_end ?_)
    refine as_if (bb := false) (AT.is (at_eqS (av_var (i := 1) rfl (.inl rfl) rfl) av_str) (by rfl)) (fun h => nomatch h) (fun _ => as_end ?_)
    refine as_if (bb := false) (AT.is (at_eqS (av_var (i := 1) rfl (.inl rfl) rfl) av_str) (by rfl)) (fun h => nomatch h) (fun _ => as_end ?_)
    refine as_if (bb := false) (AT.is (at_eqS (av_var (i := 1) rfl (.inl rfl) rfl) av_str) (by rfl)) (fun h => nomatch h) (fun _ => as_end ?_)
    refine as_if (bb := false) (AT.is (at_eqS (av_var (i := 1) rfl (.inl rfl) rfl) av_str) (by rfl)) (fun h => nomatch h) (fun _ => as_end ?_)
    refine as_if (bb := true) (AT.is (at_eqS (av_var (i := 1) rfl (.inl rfl) rfl) av_str) (by rfl)) (fun _ => ?_) (fun h => nomatch h)
    exact as_cons (a1_retx (aex_mtA (ok_Desk_put T) htk T.l_Desk.c (hr.mono (by decide)) (av_var (i := 0) rfl (.inl rfl) rfl) h1 rfl (aesx_cons (AE.aex (AV.ae (AV.is (av_ixN (f := id) D.non (AV.is (av_var (i := 3) rfl (.inl rfl) rfl) (show _ = D.fz ([D.str n].map id) from rfl)) av_int (n := 0) rfl (by simp)) (show _ = D.str n from rfl)) (aesx_cons (aex_call (ok_lowered T) htk (hr.mono (by decide)) rfl (AVs.aes (avs_c (av_var (i := 2) rfl (.inl rfl) rfl) avs_nil) ⟨_, row, 200, rfl, IsL.fz, hR, by decide, by decide, hl, he⟩))))))))
def cC0 : Ct := fun _ _ _ _ => False
theorem ok_cmp0 (T : Txt K mg) : Mt P w K mg base T.C_Desk "compared" 10 cC0 :=
  mt_mk T.d_Desk_compared sc_Desk_compared (fun ds A k e h => h.elim) fun f cdv A0 outer s H E hr hp htk ds A kk ee h => h.elim
abbrev ct_sayR (C N M Mo Lo : Addr) : Ct := ct_say C N M cC0 ct_Desk_asked (ct_changedR C Mo Lo)
theorem ok_sayR (T : Txt K mg) (TW : TxW w T) : Mt P w K mg base T.C_Desk "say" 11 (ct_sayR T.C_Desk T.C_NoText T.C_NoName T.C_TooMany T.C_NoLower) :=
  ok_say T TW (by decide) (ok_cmp0 T) ((ok_Desk_asked T).up (by decide)) ((ok_changedR T).up (by decide))
/-- a row that is refused, of a kind -/
def RefK (bk : List (Str × List Pt)) (d : D) (kind : Int) : Prop :=
  (kind = 0 ∧ NoS d) ∨ (kind = 0 ∧ ∃ x, d = .str x ∧ x.length ≤ 200000 ∧ NoR (Txt.split x " ")) ∨ (kind = 1 ∧ ∃ x, d = .str x ∧ x.length ≤ 200000 ∧ Strange bk (Txt.split x " ")) ∨
  (kind = 2 ∧ ∃ n row, d = .str (("raise " : Str) ++ n) ∧ NameL (TL.tl n) ∧ lkB bk n = some row ∧ row.length = 12 ∧ ∀ p ∈ row, SzP 200 p) ∨
  (kind = 3 ∧ ∃ n row, d = .str (("lower " : Str) ++ n) ∧ NameL (TL.tl n) ∧ lkB bk n = some row ∧ row.length = 1 ∧ Rw 200 row)
section
variable {C N M Mo Lo : Addr} {A : AH} {p b : Addr} {bk : List (Str × List Pt)} {k : AK} {e : Value → AH → Prop}
theorem ref_0 {x : Str} (hl : x.length ≤ 200000) (hD : IsDesk C A p b bk) (hb : bk.length < 64) (hn : ∀ q ∈ bk, q.1.length ≤ 1000) (h : NoR (Txt.split x " ")) (he : ∀ A', Ext A A' → e (.ref N) A') : ct_sayR C N M Mo Lo [.ref p, .str x] A k e :=
  ⟨p, b, bk, x, rfl, hl, hD, hb, hn, fun _ => he, fun w ps g => absurd g (h _)⟩
theorem ref_1 {x : Str} (hl : x.length ≤ 200000) (hD : IsDesk C A p b bk) (hb : bk.length < 64) (hn : ∀ q ∈ bk, q.1.length ≤ 1000) (h : Strange bk (Txt.split x " ")) (he : e (.ref M) A) : ct_sayR C N M Mo Lo [.ref p, .str x] A k e := by
  obtain ⟨w, ps, sh, h1, h2, h3, h4, h5⟩ := h
  refine say_of hl hD hb hn h1 ⟨fun z => absurd z h2, fun z => absurd z h3, fun _ _ sh' hs => ?_⟩
  rw [h4] at hs
  cases hs
  exact ⟨fun _ => he, fun z => absurd z h5⟩
theorem x_raise (n : Str) : ("raise " : Str) ++ n = Str.join " " ["raise", n] := TL.ext_tl (by rw [TL.tl_append, TL.tl_join]; rfl)
theorem x_lower (n : Str) : ("lower " : Str) ++ n = Str.join " " ["lower", n] := TL.ext_tl (by rw [TL.tl_append, TL.tl_join]; rfl)
theorem ref_2 {n : Str} {row : List Pt} (hD : IsDesk C A p b bk) (hb : bk.length < 64) (hn : ∀ q ∈ bk, q.1.length ≤ 1000) (hN : NameL (TL.tl n)) (hlk : lkB bk n = some row) (h12 : row.length = 12) (hz : ∀ p ∈ row, SzP 200 p) (he : e (.ref Mo) A) : ct_sayR C N M Mo Lo [.ref p, .str (("raise " : Str) ++ n)] A k e := by
  have h3 := name_len hN
  have k1 : (("raise " : Str)).length = 6 := rfl
  refine say_of (by simp only [len_cat, k1]; omega) hD hb hn ?_ (SayK_H (w := "raise") (sh := "n") (n := n) (ps := [.str n]) (row := row) (by decide) (by decide) (by decide) (by decide) (by decide) (knw_n hlk) rfl hlk ?_)
  · rw [x_raise, sp_n (by decide) hN]
    exact RowV_n (by decide) hN
  · obtain ⟨y, h1⟩ := hD.at_
    exact ⟨p, n, row, ⟨y, b, h1⟩, .inl ⟨rfl, h12, hz, he⟩⟩
theorem ref_3 {n : Str} {row : List Pt} (hD : IsDesk C A p b bk) (hb : bk.length < 64) (hn : ∀ q ∈ bk, q.1.length ≤ 1000) (hN : NameL (TL.tl n)) (hlk : lkB bk n = some row) (h1' : row.length = 1) (hR : Rw 200 row) (he : e (.ref Lo) A) : ct_sayR C N M Mo Lo [.ref p, .str (("lower " : Str) ++ n)] A k e := by
  have h3 := name_len hN
  have k1 : (("lower " : Str)).length = 6 := rfl
  refine say_of (by simp only [len_cat, k1]; omega) hD hb hn ?_ (SayK_H (w := "lower") (sh := "n") (n := n) (ps := [.str n]) (row := row) (by decide) (by decide) (by decide) (by decide) (by decide) (knw_n hlk) rfl hlk ?_)
  · rw [x_lower, sp_n (by decide) hN]
    exact RowV_n (by decide) hN
  · obtain ⟨y, h1⟩ := hD.at_
    exact ⟨p, n, row, ⟨y, b, h1⟩, .inr ⟨rfl, h1', hR, he⟩⟩
end
def ct__law_refused (C : Addr) : Ct := fun ds A k _ => ∃ (p b : Addr) (bk : List (Str × List Pt)) (d : D) (kind : Int), ds = [.ref p, d, .int kind] ∧ IsDesk C A p b bk ∧ bk.length < 64 ∧ (∀ q ∈ bk, q.1.length ≤ 1000) ∧ RefK bk d kind ∧ k (.bl true) A
theorem ok__law_refused (T : Txt K mg) (TW : TxW w T) : Fn P w K mg base "_law_refused" 12 (ct__law_refused T.C_Desk) := by
  refine fn_mk T.d__law_refused sc__law_refused (fun ds A k e h => ?_) fun f cdv A0 outer s H E hr hp htk ds A kk ee h => ?_
  · obtain ⟨p, b, bk, d, kind, rfl, _⟩ := h; rfl
  obtain ⟨p, b, bk, d, kind, rfl, hD, hbl, hbn, hR, hk⟩ := h
  obtain ⟨y, h1⟩ := hD.at_
  rcases hR with ⟨rfl, hN⟩ | ⟨rfl, x, rfl, hl, hN⟩ | ⟨rfl, x, rfl, hl, hN⟩ | ⟨rfl, n, row, rfl, hN, hlk, h12, hz9⟩ | ⟨rfl, n, row, rfl, hN, hlk, h12, hz9⟩
  · refine as_cons (a1_try (c := .ref T.C_SeatError) (i := 3) rfl rfl sc__law_refused.nd rfl rfl ⟨rfl, by decide, .inl T.e_SeatError.g⟩ htk fun W' pn xe tk' _ => ?_)
    refine as_cons (a1_exprx (aex_mt (ok_say0 T) tk' T.l_Desk.c (hr.mono (by decide)) (av_var (i := 0) rfl (.inl rfl) rfl) h1 rfl (AVs.aes (avs_c (av_var (i := 1) rfl (.inl rfl) rfl) avs_nil) ⟨_, d, rfl, hN, ⟨true, T.x_NoText_SeatError, fun _ a oe pn ha hz hf => ?_, fun h => nomatch h⟩⟩)))
    refine as_if (bb := false) (AT.is (AW.at (aw_or (at_val (av_isET T.q_NoText hz hf rfl T.m_isinstance (avs_cons (av_var (i := 3) rfl (.inl rfl) rfl) (avs_cons (AV.is (av_tup (avs_c (av_cls T.e_NoJoin rfl) (avs_c (av_cls T.e_NoMap rfl) (avs_c (av_cls T.e_NoPlace rfl) (avs_c (av_cls T.e_NoShare rfl) avs_nil))))) (show _ = D.tup (([T.C_NoJoin, T.C_NoMap, T.C_NoPlace, T.C_NoShare] : List Addr).map D.ref) from rfl)) avs_nil)) (by intro c hc; simp only [List.mem_cons, List.not_mem_nil, or_false] at hc; rcases hc with rfl | rfl | rfl | rfl; all_goals first | exact T.k_NoText_NoJoin | exact T.k_NoText_NoMap | exact T.k_NoText_NoPlace | exact T.k_NoText_NoShare))) fun _ => aw_or1 (at_not (at_val (av_isE T.q_NoText hz hf rfl T.m_isinstance (avs_cons (av_var (i := 3) rfl (.inl rfl) rfl) (avs_cons (av_ty rfl T.m_ValueError bo_ValueError) avs_nil)) ty_of T.k_NoText_ValueError))))) (by rfl)) (fun hb => nomatch hb) (fun _ => as_end ?_)
    refine as_set (i := 4) sc__law_refused.nd rfl (.inl rfl) (AV.ae (AV.is (av_lst (avs_c (av_isE T.q_NoText hz hf rfl T.m_isinstance (avs_cons (av_var (i := 3) rfl (.inl rfl) rfl) (avs_cons (av_cls T.e_NoText rfl) avs_nil)) cls_of T.k_NoText_NoText) (avs_c (av_isE T.q_NoText hz hf rfl T.m_isinstance (avs_cons (av_var (i := 3) rfl (.inl rfl) rfl) (avs_cons (av_cls T.e_NoName rfl) avs_nil)) cls_of T.k_NoText_NoName) (avs_c (av_isE T.q_NoText hz hf rfl T.m_isinstance (avs_cons (av_var (i := 3) rfl (.inl rfl) rfl) (avs_cons (av_cls T.e_TooMany rfl) avs_nil)) cls_of T.k_NoText_TooMany) (avs_c (av_isE T.q_NoText hz hf rfl T.m_isinstance (avs_cons (av_var (i := 3) rfl (.inl rfl) rfl) (avs_cons (av_cls T.e_NoLower rfl) avs_nil)) cls_of T.k_NoText_NoLower) avs_nil))))) (show _ = D.fz (([true, false, false, false] : List Bool).map D.bl) from rfl)) ?_)
    obtain ⟨vs9, hv9⟩ := hf
    exact as_retv (AV.is (av_eqLu eB hr.units (av_var (i := 4) rfl (.inl rfl) rfl) (AL.av (al_lcH (f := D.bl) (F := fun i => decide ((i : Int) = 0)) (own := [("_law_k", 5)]) (is := [5]) (.inr ⟨rfl, rfl⟩) ⟨(a, oe), ⟨rfl, vs9, hv9, hz.2.2 vs9 hv9⟩, List.mem_cons_self⟩ sc__law_refused.nd (blkOk_by rfl) (by decide) rfl T.m_range av_int (by decide) (by decide) (Nat.le_of_ble_eq_true rfl) fun i hi => ⟨_, fun s H C cl fp xe => ⟨(ag_name (i := 5) sc__law_refused.nd rfl (.inl rfl)), fun A' x => (av_eq (av_var (i := 5) rfl (.inl rfl) rfl) (av_var (i := 2) rfl (.inr (.inl rfl)) rfl))⟩⟩)) IsL.fz IsL.fz) (show _ = D.bl true by rfl)) hk
  · refine as_cons (a1_try (c := .ref T.C_SeatError) (i := 3) rfl rfl sc__law_refused.nd rfl rfl ⟨rfl, by decide, .inl T.e_SeatError.g⟩ htk fun W' pn xe tk' _ => ?_)
    refine as_cons (a1_exprx (aex_mt (ok_sayR T TW) tk' T.l_Desk.c (hr.mono (by decide)) (av_var (i := 0) rfl (.inl rfl) rfl) h1 rfl (AVs.aes (avs_c (av_var (i := 1) rfl (.inl rfl) rfl) avs_nil) (ref_0 hl hD hbl hbn hN fun A9 x9 => ⟨true, T.x_NoText_SeatError, fun _ a oe pn ha hz hf => ?_, fun h => nomatch h⟩))))
    refine as_weak (A0 := A) x9 ?_
    refine as_if (bb := false) (AT.is (AW.at (aw_or (at_val (av_isET T.q_NoText hz hf rfl T.m_isinstance (avs_cons (av_var (i := 3) rfl (.inl rfl) rfl) (avs_cons (AV.is (av_tup (avs_c (av_cls T.e_NoJoin rfl) (avs_c (av_cls T.e_NoMap rfl) (avs_c (av_cls T.e_NoPlace rfl) (avs_c (av_cls T.e_NoShare rfl) avs_nil))))) (show _ = D.tup (([T.C_NoJoin, T.C_NoMap, T.C_NoPlace, T.C_NoShare] : List Addr).map D.ref) from rfl)) avs_nil)) (by intro c hc; simp only [List.mem_cons, List.not_mem_nil, or_false] at hc; rcases hc with rfl | rfl | rfl | rfl; all_goals first | exact T.k_NoText_NoJoin | exact T.k_NoText_NoMap | exact T.k_NoText_NoPlace | exact T.k_NoText_NoShare))) fun _ => aw_or1 (at_not (at_val (av_isE T.q_NoText hz hf rfl T.m_isinstance (avs_cons (av_var (i := 3) rfl (.inl rfl) rfl) (avs_cons (av_ty rfl T.m_ValueError bo_ValueError) avs_nil)) ty_of T.k_NoText_ValueError))))) (by rfl)) (fun hb => nomatch hb) (fun _ => as_end ?_)
    refine as_set (i := 4) sc__law_refused.nd rfl (.inl rfl) (AV.ae (AV.is (av_lst (avs_c (av_isE T.q_NoText hz hf rfl T.m_isinstance (avs_cons (av_var (i := 3) rfl (.inl rfl) rfl) (avs_cons (av_cls T.e_NoText rfl) avs_nil)) cls_of T.k_NoText_NoText) (avs_c (av_isE T.q_NoText hz hf rfl T.m_isinstance (avs_cons (av_var (i := 3) rfl (.inl rfl) rfl) (avs_cons (av_cls T.e_NoName rfl) avs_nil)) cls_of T.k_NoText_NoName) (avs_c (av_isE T.q_NoText hz hf rfl T.m_isinstance (avs_cons (av_var (i := 3) rfl (.inl rfl) rfl) (avs_cons (av_cls T.e_TooMany rfl) avs_nil)) cls_of T.k_NoText_TooMany) (avs_c (av_isE T.q_NoText hz hf rfl T.m_isinstance (avs_cons (av_var (i := 3) rfl (.inl rfl) rfl) (avs_cons (av_cls T.e_NoLower rfl) avs_nil)) cls_of T.k_NoText_NoLower) avs_nil))))) (show _ = D.fz (([true, false, false, false] : List Bool).map D.bl) from rfl)) ?_)
    obtain ⟨vs9, hv9⟩ := hf
    exact as_retv (AV.is (av_eqLu eB hr.units (av_var (i := 4) rfl (.inl rfl) rfl) (AL.av (al_lcH (f := D.bl) (F := fun i => decide ((i : Int) = 0)) (own := [("_law_k", 5)]) (is := [5]) (.inr ⟨rfl, rfl⟩) ⟨(a, oe), ⟨rfl, vs9, hv9, hz.2.2 vs9 hv9⟩, List.mem_cons_self⟩ sc__law_refused.nd (blkOk_by rfl) (by decide) rfl T.m_range av_int (by decide) (by decide) (Nat.le_of_ble_eq_true rfl) fun i hi => ⟨_, fun s H C cl fp xe => ⟨(ag_name (i := 5) sc__law_refused.nd rfl (.inl rfl)), fun A' x => (av_eq (av_var (i := 5) rfl (.inl rfl) rfl) (av_var (i := 2) rfl (.inr (.inl rfl)) rfl))⟩⟩)) IsL.fz IsL.fz) (show _ = D.bl true by rfl)) hk
  · refine as_cons (a1_try (c := .ref T.C_SeatError) (i := 3) rfl rfl sc__law_refused.nd rfl rfl ⟨rfl, by decide, .inl T.e_SeatError.g⟩ htk fun W' pn xe tk' _ => ?_)
    refine as_cons (a1_exprx (aex_mt (ok_sayR T TW) tk' T.l_Desk.c (hr.mono (by decide)) (av_var (i := 0) rfl (.inl rfl) rfl) h1 rfl (AVs.aes (avs_c (av_var (i := 1) rfl (.inl rfl) rfl) avs_nil) (ref_1 hl hD hbl hbn hN ⟨true, T.x_NoName_SeatError, fun _ a oe pn ha hz hf => ?_, fun h => nomatch h⟩))))
    refine as_if (bb := false) (AT.is (AW.at (aw_or (at_val (av_isET T.q_NoName hz hf rfl T.m_isinstance (avs_cons (av_var (i := 3) rfl (.inl rfl) rfl) (avs_cons (AV.is (av_tup (avs_c (av_cls T.e_NoJoin rfl) (avs_c (av_cls T.e_NoMap rfl) (avs_c (av_cls T.e_NoPlace rfl) (avs_c (av_cls T.e_NoShare rfl) avs_nil))))) (show _ = D.tup (([T.C_NoJoin, T.C_NoMap, T.C_NoPlace, T.C_NoShare] : List Addr).map D.ref) from rfl)) avs_nil)) (by intro c hc; simp only [List.mem_cons, List.not_mem_nil, or_false] at hc; rcases hc with rfl | rfl | rfl | rfl; all_goals first | exact T.k_NoName_NoJoin | exact T.k_NoName_NoMap | exact T.k_NoName_NoPlace | exact T.k_NoName_NoShare))) fun _ => aw_or1 (at_not (at_val (av_isE T.q_NoName hz hf rfl T.m_isinstance (avs_cons (av_var (i := 3) rfl (.inl rfl) rfl) (avs_cons (av_ty rfl T.m_ValueError bo_ValueError) avs_nil)) ty_of T.k_NoName_ValueError))))) (by rfl)) (fun hb => nomatch hb) (fun _ => as_end ?_)
    refine as_set (i := 4) sc__law_refused.nd rfl (.inl rfl) (AV.ae (AV.is (av_lst (avs_c (av_isE T.q_NoName hz hf rfl T.m_isinstance (avs_cons (av_var (i := 3) rfl (.inl rfl) rfl) (avs_cons (av_cls T.e_NoText rfl) avs_nil)) cls_of T.k_NoName_NoText) (avs_c (av_isE T.q_NoName hz hf rfl T.m_isinstance (avs_cons (av_var (i := 3) rfl (.inl rfl) rfl) (avs_cons (av_cls T.e_NoName rfl) avs_nil)) cls_of T.k_NoName_NoName) (avs_c (av_isE T.q_NoName hz hf rfl T.m_isinstance (avs_cons (av_var (i := 3) rfl (.inl rfl) rfl) (avs_cons (av_cls T.e_TooMany rfl) avs_nil)) cls_of T.k_NoName_TooMany) (avs_c (av_isE T.q_NoName hz hf rfl T.m_isinstance (avs_cons (av_var (i := 3) rfl (.inl rfl) rfl) (avs_cons (av_cls T.e_NoLower rfl) avs_nil)) cls_of T.k_NoName_NoLower) avs_nil))))) (show _ = D.fz (([false, true, false, false] : List Bool).map D.bl) from rfl)) ?_)
    obtain ⟨vs9, hv9⟩ := hf
    exact as_retv (AV.is (av_eqLu eB hr.units (av_var (i := 4) rfl (.inl rfl) rfl) (AL.av (al_lcH (f := D.bl) (F := fun i => decide ((i : Int) = 1)) (own := [("_law_k", 5)]) (is := [5]) (.inr ⟨rfl, rfl⟩) ⟨(a, oe), ⟨rfl, vs9, hv9, hz.2.2 vs9 hv9⟩, List.mem_cons_self⟩ sc__law_refused.nd (blkOk_by rfl) (by decide) rfl T.m_range av_int (by decide) (by decide) (Nat.le_of_ble_eq_true rfl) fun i hi => ⟨_, fun s H C cl fp xe => ⟨(ag_name (i := 5) sc__law_refused.nd rfl (.inl rfl)), fun A' x => (av_eq (av_var (i := 5) rfl (.inl rfl) rfl) (av_var (i := 2) rfl (.inr (.inl rfl)) rfl))⟩⟩)) IsL.fz IsL.fz) (show _ = D.bl true by rfl)) hk
  · refine as_cons (a1_try (c := .ref T.C_SeatError) (i := 3) rfl rfl sc__law_refused.nd rfl rfl ⟨rfl, by decide, .inl T.e_SeatError.g⟩ htk fun W' pn xe tk' _ => ?_)
    refine as_cons (a1_exprx (aex_mt (ok_sayR T TW) tk' T.l_Desk.c (hr.mono (by decide)) (av_var (i := 0) rfl (.inl rfl) rfl) h1 rfl (AVs.aes (avs_c (av_var (i := 1) rfl (.inl rfl) rfl) avs_nil) (ref_2 hD hbl hbn hN hlk h12 hz9 ⟨true, T.x_TooMany_SeatError, fun _ a oe pn ha hz hf => ?_, fun h => nomatch h⟩))))
    refine as_if (bb := false) (AT.is (AW.at (aw_or (at_val (av_isET T.q_TooMany hz hf rfl T.m_isinstance (avs_cons (av_var (i := 3) rfl (.inl rfl) rfl) (avs_cons (AV.is (av_tup (avs_c (av_cls T.e_NoJoin rfl) (avs_c (av_cls T.e_NoMap rfl) (avs_c (av_cls T.e_NoPlace rfl) (avs_c (av_cls T.e_NoShare rfl) avs_nil))))) (show _ = D.tup (([T.C_NoJoin, T.C_NoMap, T.C_NoPlace, T.C_NoShare] : List Addr).map D.ref) from rfl)) avs_nil)) (by intro c hc; simp only [List.mem_cons, List.not_mem_nil, or_false] at hc; rcases hc with rfl | rfl | rfl | rfl; all_goals first | exact T.k_TooMany_NoJoin | exact T.k_TooMany_NoMap | exact T.k_TooMany_NoPlace | exact T.k_TooMany_NoShare))) fun _ => aw_or1 (at_not (at_val (av_isE T.q_TooMany hz hf rfl T.m_isinstance (avs_cons (av_var (i := 3) rfl (.inl rfl) rfl) (avs_cons (av_ty rfl T.m_ValueError bo_ValueError) avs_nil)) ty_of T.k_TooMany_ValueError))))) (by rfl)) (fun hb => nomatch hb) (fun _ => as_end ?_)
    refine as_set (i := 4) sc__law_refused.nd rfl (.inl rfl) (AV.ae (AV.is (av_lst (avs_c (av_isE T.q_TooMany hz hf rfl T.m_isinstance (avs_cons (av_var (i := 3) rfl (.inl rfl) rfl) (avs_cons (av_cls T.e_NoText rfl) avs_nil)) cls_of T.k_TooMany_NoText) (avs_c (av_isE T.q_TooMany hz hf rfl T.m_isinstance (avs_cons (av_var (i := 3) rfl (.inl rfl) rfl) (avs_cons (av_cls T.e_NoName rfl) avs_nil)) cls_of T.k_TooMany_NoName) (avs_c (av_isE T.q_TooMany hz hf rfl T.m_isinstance (avs_cons (av_var (i := 3) rfl (.inl rfl) rfl) (avs_cons (av_cls T.e_TooMany rfl) avs_nil)) cls_of T.k_TooMany_TooMany) (avs_c (av_isE T.q_TooMany hz hf rfl T.m_isinstance (avs_cons (av_var (i := 3) rfl (.inl rfl) rfl) (avs_cons (av_cls T.e_NoLower rfl) avs_nil)) cls_of T.k_TooMany_NoLower) avs_nil))))) (show _ = D.fz (([false, false, true, false] : List Bool).map D.bl) from rfl)) ?_)
    obtain ⟨vs9, hv9⟩ := hf
    exact as_retv (AV.is (av_eqLu eB hr.units (av_var (i := 4) rfl (.inl rfl) rfl) (AL.av (al_lcH (f := D.bl) (F := fun i => decide ((i : Int) = 2)) (own := [("_law_k", 5)]) (is := [5]) (.inr ⟨rfl, rfl⟩) ⟨(a, oe), ⟨rfl, vs9, hv9, hz.2.2 vs9 hv9⟩, List.mem_cons_self⟩ sc__law_refused.nd (blkOk_by rfl) (by decide) rfl T.m_range av_int (by decide) (by decide) (Nat.le_of_ble_eq_true rfl) fun i hi => ⟨_, fun s H C cl fp xe => ⟨(ag_name (i := 5) sc__law_refused.nd rfl (.inl rfl)), fun A' x => (av_eq (av_var (i := 5) rfl (.inl rfl) rfl) (av_var (i := 2) rfl (.inr (.inl rfl)) rfl))⟩⟩)) IsL.fz IsL.fz) (show _ = D.bl true by rfl)) hk
  · refine as_cons (a1_try (c := .ref T.C_SeatError) (i := 3) rfl rfl sc__law_refused.nd rfl rfl ⟨rfl, by decide, .inl T.e_SeatError.g⟩ htk fun W' pn xe tk' _ => ?_)
    refine as_cons (a1_exprx (aex_mt (ok_sayR T TW) tk' T.l_Desk.c (hr.mono (by decide)) (av_var (i := 0) rfl (.inl rfl) rfl) h1 rfl (AVs.aes (avs_c (av_var (i := 1) rfl (.inl rfl) rfl) avs_nil) (ref_3 hD hbl hbn hN hlk h12 hz9 ⟨true, T.x_NoLower_SeatError, fun _ a oe pn ha hz hf => ?_, fun h => nomatch h⟩))))
    refine as_if (bb := false) (AT.is (AW.at (aw_or (at_val (av_isET T.q_NoLower hz hf rfl T.m_isinstance (avs_cons (av_var (i := 3) rfl (.inl rfl) rfl) (avs_cons (AV.is (av_tup (avs_c (av_cls T.e_NoJoin rfl) (avs_c (av_cls T.e_NoMap rfl) (avs_c (av_cls T.e_NoPlace rfl) (avs_c (av_cls T.e_NoShare rfl) avs_nil))))) (show _ = D.tup (([T.C_NoJoin, T.C_NoMap, T.C_NoPlace, T.C_NoShare] : List Addr).map D.ref) from rfl)) avs_nil)) (by intro c hc; simp only [List.mem_cons, List.not_mem_nil, or_false] at hc; rcases hc with rfl | rfl | rfl | rfl; all_goals first | exact T.k_NoLower_NoJoin | exact T.k_NoLower_NoMap | exact T.k_NoLower_NoPlace | exact T.k_NoLower_NoShare))) fun _ => aw_or1 (at_not (at_val (av_isE T.q_NoLower hz hf rfl T.m_isinstance (avs_cons (av_var (i := 3) rfl (.inl rfl) rfl) (avs_cons (av_ty rfl T.m_ValueError bo_ValueError) avs_nil)) ty_of T.k_NoLower_ValueError))))) (by rfl)) (fun hb => nomatch hb) (fun _ => as_end ?_)
    refine as_set (i := 4) sc__law_refused.nd rfl (.inl rfl) (AV.ae (AV.is (av_lst (avs_c (av_isE T.q_NoLower hz hf rfl T.m_isinstance (avs_cons (av_var (i := 3) rfl (.inl rfl) rfl) (avs_cons (av_cls T.e_NoText rfl) avs_nil)) cls_of T.k_NoLower_NoText) (avs_c (av_isE T.q_NoLower hz hf rfl T.m_isinstance (avs_cons (av_var (i := 3) rfl (.inl rfl) rfl) (avs_cons (av_cls T.e_NoName rfl) avs_nil)) cls_of T.k_NoLower_NoName) (avs_c (av_isE T.q_NoLower hz hf rfl T.m_isinstance (avs_cons (av_var (i := 3) rfl (.inl rfl) rfl) (avs_cons (av_cls T.e_TooMany rfl) avs_nil)) cls_of T.k_NoLower_TooMany) (avs_c (av_isE T.q_NoLower hz hf rfl T.m_isinstance (avs_cons (av_var (i := 3) rfl (.inl rfl) rfl) (avs_cons (av_cls T.e_NoLower rfl) avs_nil)) cls_of T.k_NoLower_NoLower) avs_nil))))) (show _ = D.fz (([false, false, false, true] : List Bool).map D.bl) from rfl)) ?_)
    obtain ⟨vs9, hv9⟩ := hf
    exact as_retv (AV.is (av_eqLu eB hr.units (av_var (i := 4) rfl (.inl rfl) rfl) (AL.av (al_lcH (f := D.bl) (F := fun i => decide ((i : Int) = 3)) (own := [("_law_k", 5)]) (is := [5]) (.inr ⟨rfl, rfl⟩) ⟨(a, oe), ⟨rfl, vs9, hv9, hz.2.2 vs9 hv9⟩, List.mem_cons_self⟩ sc__law_refused.nd (blkOk_by rfl) (by decide) rfl T.m_range av_int (by decide) (by decide) (Nat.le_of_ble_eq_true rfl) fun i hi => ⟨_, fun s H C cl fp xe => ⟨(ag_name (i := 5) sc__law_refused.nd rfl (.inl rfl)), fun A' x => (av_eq (av_var (i := 5) rfl (.inl rfl) rfl) (av_var (i := 2) rfl (.inr (.inl rfl)) rfl))⟩⟩)) IsL.fz IsL.fz) (show _ = D.bl true by rfl)) hk
theorem fill_len {a b o : List Nat} (ha : a.length ≤ 200) (hb : b.length ≤ 200) (ho : o.length ≤ 200) : ∀ l : List Nat, (fillL a b o l).length ≤ l.length * 200
  | [] => Nat.le_refl _
  | c :: l => by
    have ih := fill_len ha hb ho l
    have e : fillL a b o (c :: l) = fillL a b o [c] ++ fillL a b o l := fill_app a b o [c] l
    have h1 : (fillL a b o [c]).length ≤ 200 := by
      unfold fillL
      rw [List.flatMap_cons, List.flatMap_nil, List.append_nil]
      split
      · exact ha
      split
      · exact hb
      split
      · exact ho
      · simp
    rw [e, List.length_append, List.length_cons]
    omega
theorem fillS_len {a b o t : Str} (ha : a.length ≤ 200) (hb : b.length ≤ 200) (ho : o.length ≤ 200) (ht : t.length ≤ 200) : (fillS a b o t).length ≤ 40000 := by
  unfold fillS
  rw [len_strL]
  have := fill_len (a := TL.tl a) (b := TL.tl b) (o := TL.tl o) (by rw [← TL.len_tl]; exact ha) (by rw [← TL.len_tl]; exact hb) (by rw [← TL.len_tl]; exact ho) (TL.tl t)
  rw [← TL.len_tl] at this
  omega
theorem fill_one (a b o : List Nat) (c : Nat) : fillL a b o [c] = if c = 91 then a else if c = 93 then b else if c = 63 then o else [c] := by
  unfold fillL
  rw [List.flatMap_cons, List.flatMap_nil, List.append_nil]
theorem take_snoc {l : List Nat} {i : Nat} (h : i < l.length) : l.take (i + 1) = l.take i ++ [l.getD i 0] := by
  rw [List.take_succ, List.getD_eq_getElem?_getD, List.getElem?_eq_getElem h]; rfl
theorem strL_cat (l : List Nat) (x : Str) : strL l ++ x = strL (l ++ TL.tl x) := TL.ext_tl (by rw [TL.tl_append, tl_strL, tl_strL])
def ct__law_filled : Ct := fun ds A k _ => ∃ (t a b o : Str), ds = [.str t, .str a, .str b, .str o] ∧ t.length ≤ 200 ∧ a.length ≤ 200 ∧ b.length ≤ 200 ∧ o.length ≤ 200 ∧ k (.str (fillS a b o t)) A
theorem ok__law_filled (T : Txt K mg) : Fn P w K mg base "_law_filled" 1 ct__law_filled := by
  refine fn_mk T.d__law_filled sc__law_filled (fun ds A k e h => ?_) fun f cdv A0 outer s H E hr hp htk ds A kk ee h => ?_
  · obtain ⟨t, a, b, o, rfl, _⟩ := h; rfl
  obtain ⟨t, a, b, o, rfl, ht, ha, hb, ho, hk⟩ := h
  refine as_set (i := 4) sc__law_filled.nd rfl (.inl rfl) (AV.ae (AV.is av_str (show _ = D.str (strL (fillL (TL.tl a) (TL.tl b) (TL.tl o) ((TL.tl t).take 0))) from rfl)) ?_)
  refine AS.ro (ρ' := [some (.str t), some (.str a), some (.str b), some (.str o), some (.str (strL (fillL (TL.tl a) (TL.tl b) (TL.tl o) ((TL.tl t).take 0)))), none]) ?_
  refine as_cons (a1_for hp rfl (ai_S (av_var (i := 0) rfl (.inl rfl) rfl) ⟨fun i ρ A' => ∃ (y : Option D), ρ = [some (.str t), some (.str a), some (.str b), some (.str o), some (.str (strL (fillL (TL.tl a) (TL.tl b) (TL.tl o) ((TL.tl t).take i)))), y] ∧ A = A', ⟨_, rfl, rfl⟩, fun i ρ A' hle hI => trivial, fun i ρ A' hi hI => ⟨_, _, (ag_name (i := 5) sc__law_filled.nd rfl (.inl rfl)), ?_⟩, fun ρ A' hI => ?_⟩))
  · skip
    obtain ⟨y, rfl, rfl⟩ := hI
    have hcg : t.cps.getD i 0 = (TL.tl t).getD i 0 := by rw [Array.getD_eq_getD_getElem?, List.getD_eq_getElem?_getD, Array.getElem?_toList]
    have hil : i < (TL.tl t).length := by rw [← TL.len_tl]; exact hi
    have hil2 : i < 200 := Nat.lt_of_lt_of_le hi ht
    obtain ⟨c, hc⟩ : ∃ c, c = (TL.tl t).getD i 0 := ⟨_, rfl⟩
    have hst : fillL (TL.tl a) (TL.tl b) (TL.tl o) ((TL.tl t).take (i + 1)) = fillL (TL.tl a) (TL.tl b) (TL.tl o) ((TL.tl t).take i) ++ fillL (TL.tl a) (TL.tl b) (TL.tl o) [c] := by rw [take_snoc hil, fill_app, hc]
    have hfl := fill_len (a := TL.tl a) (b := TL.tl b) (o := TL.tl o) (by rw [← TL.len_tl]; exact ha) (by rw [← TL.len_tl]; exact hb) (by rw [← TL.len_tl]; exact ho) ((TL.tl t).take i)
    rw [List.length_take] at hfl
    rw [fill_one] at hst
    obtain ⟨g, hg⟩ : ∃ g, g = fillL (TL.tl a) (TL.tl b) (TL.tl o) ((TL.tl t).take i) := ⟨_, rfl⟩
    rw [← hg] at hst hfl
    have hgl : g.length ≤ 40000 := by omega
    refine AS.ro (ρ' := [some (.str t), some (.str a), some (.str b), some (.str o), some (.str (strL g)), some (.str ⟨#[c]⟩)]) ?_ (by rw [hg, hc, ← hcg]; rfl)
    refine as_if (at_eqS (av_var (i := 5) rfl (.inl rfl) rfl) av_str) (fun hb0 => ?_) (fun hb0 => ?_)
    · have hb0 : c = 91 := sign_eq.mp (of_decide_eq_true hb0)
      refine as_set (i := 4) sc__law_filled.nd rfl (.inl rfl) (AV.ae (av_catS (av_var (i := 4) rfl (.inl rfl) rfl) (av_var (i := 1) rfl (.inl rfl) rfl) (by rw [len_strL]; exact Nat.le_of_lt (small_sz (by omega)))) ?_)
      exact as_nil (as_nil ⟨_, by rw [hst, if_pos hb0, strL_cat]; rfl, rfl⟩)
    have hn0 : ¬ c = 91 := fun z => of_decide_eq_false hb0 (sign_eq.mpr z)
    refine as_if (at_eqS (av_var (i := 5) rfl (.inl rfl) rfl) av_str) (fun hb1 => ?_) (fun hb1 => ?_)
    · have hb1 : c = 93 := sign_eq.mp (of_decide_eq_true hb1)
      refine as_set (i := 4) sc__law_filled.nd rfl (.inl rfl) (AV.ae (av_catS (av_var (i := 4) rfl (.inl rfl) rfl) (av_var (i := 2) rfl (.inl rfl) rfl) (by rw [len_strL]; exact Nat.le_of_lt (small_sz (by omega)))) ?_)
      exact as_nil (as_nil (as_nil ⟨_, by rw [hst, if_neg hn0, if_pos hb1, strL_cat]; rfl, rfl⟩))
    have hn1 : ¬ c = 93 := fun z => of_decide_eq_false hb1 (sign_eq.mpr z)
    refine as_if (at_eqS (av_var (i := 5) rfl (.inl rfl) rfl) av_str) (fun hb2 => ?_) (fun hb2 => ?_)
    · have hb2 : c = 63 := sign_eq.mp (of_decide_eq_true hb2)
      refine as_set (i := 4) sc__law_filled.nd rfl (.inl rfl) (AV.ae (av_catS (av_var (i := 4) rfl (.inl rfl) rfl) (av_var (i := 3) rfl (.inl rfl) rfl) (by rw [len_strL]; exact Nat.le_of_lt (small_sz (by omega)))) ?_)
      exact as_nil (as_nil (as_nil (as_nil ⟨_, by rw [hst, if_neg hn0, if_neg hn1, if_pos hb2, strL_cat]; rfl, rfl⟩)))
    have hn2 : ¬ c = 63 := fun z => of_decide_eq_false hb2 (sign_eq.mpr z)
    refine as_set (i := 4) sc__law_filled.nd rfl (.inl rfl) (AV.ae (av_catS (av_var (i := 4) rfl (.inl rfl) rfl) (av_var (i := 5) rfl (.inl rfl) rfl) (by rw [len_strL]; exact Nat.le_of_lt (small_sz (show g.length + 1 < 2000000 by omega)))) ?_)
    exact as_nil (as_nil (as_nil (as_nil ⟨_, by rw [hst, if_neg hn0, if_neg hn1, if_neg hn2, strL_cat]; rfl, rfl⟩)))
  obtain ⟨y, rfl, rfl⟩ := hI
  refine as_retv (AV.is (av_var (i := 4) rfl (.inl rfl) rfl) (show _ = D.str (fillS a b o t) by unfold fillS; rw [List.take_of_length_le (by rw [← TL.len_tl]; exact Nat.le_refl _)])) hk
theorem noT_len : (∀ t ∈ noWordsT, t.length ≤ 200) ∧ (∀ t ∈ noNamesT, t.length ≤ 200) ∧ (∀ t ∈ strangersT, t.length ≤ 200) ∧ (∀ t ∈ noRowsT, t.length ≤ 200) := by decide
def noRowsD (a b : Str) : List D := [.non, .int 7, .bl true, .fz [.str (("tell " : Str) ++ a)], .tup [.str "names"]] ++ (noRowsT.map (fillS a b "")).map D.str
def ct__law_no_words : Ct := fun ds A k _ => ∃ (a b o : Str), ds = [.str a, .str b, .str o] ∧ a.length ≤ 200 ∧ b.length ≤ 200 ∧ o.length ≤ 200 ∧ k (.fz ((noWordsT.map (fillS a b o)).map D.str)) A
theorem ok__law_no_words (T : Txt K mg) : Fn P w K mg base "_law_no_words" 2 ct__law_no_words := by
  refine fn_mk T.d__law_no_words sc__law_no_words (fun ds A k e h => ?_) fun f cdv A0 outer s H E hr hp htk ds A kk ee h => ?_
  · obtain ⟨a, b, o, rfl, _⟩ := h; rfl
  obtain ⟨a, b, o, rfl, ha, hb, ho, hk⟩ := h
  refine as_set (i := 3) sc__law_no_words.nd rfl (.inl rfl) (AV.ae (av_lst (ds := ([("point [ ?" : Str), ("cut [ ? [ ]" : Str), ("stretch [ 0 ? ]" : Str), ("stretch [ ? 1 ]" : Str), ("move [ 1 0 ? 1 0 0" : Str), ("curve ] 1,?" : Str)]).map D.str) (avs_c av_str (avs_c av_str (avs_c av_str (avs_c av_str (avs_c av_str (avs_c av_str avs_nil))))))) ?_)
  refine AS.ro (ρ' := [some (.str a), some (.str b), some (.str o), some (.fz (([("point [ ?" : Str), ("cut [ ? [ ]" : Str), ("stretch [ 0 ? ]" : Str), ("stretch [ ? 1 ]" : Str), ("move [ 1 0 ? 1 0 0" : Str), ("curve ] 1,?" : Str)]).map D.str)), none]) ?_
  refine as_set (i := 3) sc__law_no_words.nd rfl (.inl rfl) (AV.ae (AV.is (av_cat (f := D.str) (xs := [("point [ ?" : Str), ("cut [ ? [ ]" : Str), ("stretch [ 0 ? ]" : Str), ("stretch [ ? 1 ]" : Str), ("move [ 1 0 ? 1 0 0" : Str), ("curve ] 1,?" : Str)]) (ys := [("curve ] 0,0 ?,1" : Str), ("point nobody ?" : Str), ("move [ 1 0 0 1 0 ?" : Str)]) (av_var (i := 3) rfl (.inl rfl) rfl) (av_lst (ds := ([("curve ] 0,0 ?,1" : Str), ("point nobody ?" : Str), ("move [ 1 0 0 1 0 ?" : Str)]).map D.str) (avs_c av_str (avs_c av_str (avs_c av_str avs_nil)))) (.fz _) (.fz _) (Nat.le_of_ble_eq_true rfl)) (show _ = D.fz (([("point [ ?" : Str), ("cut [ ? [ ]" : Str), ("stretch [ 0 ? ]" : Str), ("stretch [ ? 1 ]" : Str), ("move [ 1 0 ? 1 0 0" : Str), ("curve ] 1,?" : Str), ("curve ] 0,0 ?,1" : Str), ("point nobody ?" : Str), ("move [ 1 0 0 1 0 ?" : Str)]).map D.str) from rfl)) ?_)
  refine AS.ro (ρ' := [some (.str a), some (.str b), some (.str o), some (.fz (([("point [ ?" : Str), ("cut [ ? [ ]" : Str), ("stretch [ 0 ? ]" : Str), ("stretch [ ? 1 ]" : Str), ("move [ 1 0 ? 1 0 0" : Str), ("curve ] 1,?" : Str), ("curve ] 0,0 ?,1" : Str), ("point nobody ?" : Str), ("move [ 1 0 0 1 0 ?" : Str)]).map D.str)), none]) ?_
  refine AS.ro (ρ' := [some (.str a), some (.str b), some (.str o), some (.fz (noWordsT.map D.str)), none]) ?_
  exact as_retv (AV.is (av_lcF rfl sc__law_no_words.nd (blkOk_by rfl) (own := [("_law_text", 4)]) (is := [4]) (f := D.str) (F := fun i => fillS a b o (noWordsT.getD i default)) (by decide) (ai_F (default : Str) (f := D.str) (av_var (i := 3) rfl (.inl rfl) rfl) ⟨rfl, rfl, (Nat.le_of_ble_eq_true rfl), (fun _ x => trivial), fun i hi => ⟨_, fun s H C cl fp => ⟨(ag_name (i := 4) sc__law_no_words.nd rfl (.inl rfl)), fun A' x => (AE.av (ae_call (ok__law_filled T) (hr.mono (by decide)) rfl (AVs.aes (avs_c (av_var (i := 4) rfl (.inl rfl) rfl) (avs_c (av_var (i := 0) rfl (.inr (.inl rfl)) rfl) (avs_c (av_var (i := 1) rfl (.inr (.inl rfl)) rfl) (avs_c (av_var (i := 2) rfl (.inr (.inl rfl)) rfl) avs_nil)))) ⟨_, _, _, _, rfl, noT_len.1 _ (getD_ll _ hi), ha, hb, ho, ⟨rfl, Ext.refl _⟩⟩)))⟩⟩⟩)) (show _ = D.fz ((noWordsT.map (fillS a b o)).map D.str) by rw [← map_range_get noWordsT default (fillS a b o)])) hk
def ct__law_no_names : Ct := fun ds A k _ => ∃ (a b o : Str), ds = [.str a, .str b, .str o] ∧ a.length ≤ 200 ∧ b.length ≤ 200 ∧ o.length ≤ 200 ∧ k (.fz ((noNamesT.map (fillS a b o)).map D.str)) A
theorem ok__law_no_names (T : Txt K mg) : Fn P w K mg base "_law_no_names" 2 ct__law_no_names := by
  refine fn_mk T.d__law_no_names sc__law_no_names (fun ds A k e h => ?_) fun f cdv A0 outer s H E hr hp htk ds A kk ee h => ?_
  · obtain ⟨a, b, o, rfl, _⟩ := h; rfl
  obtain ⟨a, b, o, rfl, ha, hb, ho, hk⟩ := h
  refine as_set (i := 3) sc__law_no_names.nd rfl (.inl rfl) (AV.ae (av_lst (ds := ([("tell ?" : Str), ("curve ? 1,1" : Str), ("turn ?" : Str), ("same [ ?" : Str), ("speed [ ?" : Str), ("cut [ 1/2 ] ?" : Str), ("hull ?" : Str)]).map D.str) (avs_c av_str (avs_c av_str (avs_c av_str (avs_c av_str (avs_c av_str (avs_c av_str (avs_c av_str avs_nil)))))))) ?_)
  refine AS.ro (ρ' := [some (.str a), some (.str b), some (.str o), some (.fz (([("tell ?" : Str), ("curve ? 1,1" : Str), ("turn ?" : Str), ("same [ ?" : Str), ("speed [ ?" : Str), ("cut [ 1/2 ] ?" : Str), ("hull ?" : Str)]).map D.str)), none]) ?_
  refine as_set (i := 3) sc__law_no_names.nd rfl (.inl rfl) (AV.ae (AV.is (av_cat (f := D.str) (xs := [("tell ?" : Str), ("curve ? 1,1" : Str), ("turn ?" : Str), ("same [ ?" : Str), ("speed [ ?" : Str), ("cut [ 1/2 ] ?" : Str), ("hull ?" : Str)]) (ys := [("raise ?" : Str), ("point ? 1/2" : Str)]) (av_var (i := 3) rfl (.inl rfl) rfl) (av_lst (ds := ([("raise ?" : Str), ("point ? 1/2" : Str)]).map D.str) (avs_c av_str (avs_c av_str avs_nil))) (.fz _) (.fz _) (Nat.le_of_ble_eq_true rfl)) (show _ = D.fz (([("tell ?" : Str), ("curve ? 1,1" : Str), ("turn ?" : Str), ("same [ ?" : Str), ("speed [ ?" : Str), ("cut [ 1/2 ] ?" : Str), ("hull ?" : Str), ("raise ?" : Str), ("point ? 1/2" : Str)]).map D.str) from rfl)) ?_)
  refine AS.ro (ρ' := [some (.str a), some (.str b), some (.str o), some (.fz (([("tell ?" : Str), ("curve ? 1,1" : Str), ("turn ?" : Str), ("same [ ?" : Str), ("speed [ ?" : Str), ("cut [ 1/2 ] ?" : Str), ("hull ?" : Str), ("raise ?" : Str), ("point ? 1/2" : Str)]).map D.str)), none]) ?_
  refine AS.ro (ρ' := [some (.str a), some (.str b), some (.str o), some (.fz (noNamesT.map D.str)), none]) ?_
  exact as_retv (AV.is (av_lcF rfl sc__law_no_names.nd (blkOk_by rfl) (own := [("_law_text", 4)]) (is := [4]) (f := D.str) (F := fun i => fillS a b o (noNamesT.getD i default)) (by decide) (ai_F (default : Str) (f := D.str) (av_var (i := 3) rfl (.inl rfl) rfl) ⟨rfl, rfl, (Nat.le_of_ble_eq_true rfl), (fun _ x => trivial), fun i hi => ⟨_, fun s H C cl fp => ⟨(ag_name (i := 4) sc__law_no_names.nd rfl (.inl rfl)), fun A' x => (AE.av (ae_call (ok__law_filled T) (hr.mono (by decide)) rfl (AVs.aes (avs_c (av_var (i := 4) rfl (.inl rfl) rfl) (avs_c (av_var (i := 0) rfl (.inr (.inl rfl)) rfl) (avs_c (av_var (i := 1) rfl (.inr (.inl rfl)) rfl) (avs_c (av_var (i := 2) rfl (.inr (.inl rfl)) rfl) avs_nil)))) ⟨_, _, _, _, rfl, noT_len.2.1 _ (getD_ll _ hi), ha, hb, ho, ⟨rfl, Ext.refl _⟩⟩)))⟩⟩⟩)) (show _ = D.fz ((noNamesT.map (fillS a b o)).map D.str) by rw [← map_range_get noNamesT default (fillS a b o)])) hk
def ct__law_strangers : Ct := fun ds A k _ => ∃ (a o : Str), ds = [.str a, .str o] ∧ a.length ≤ 200 ∧ o.length ≤ 200 ∧ k (.fz ((strangersT.map (fillS a "" o)).map D.str)) A
theorem ok__law_strangers (T : Txt K mg) : Fn P w K mg base "_law_strangers" 2 ct__law_strangers := by
  refine fn_mk T.d__law_strangers sc__law_strangers (fun ds A k e h => ?_) fun f cdv A0 outer s H E hr hp htk ds A kk ee h => ?_
  · obtain ⟨a, o, rfl, _⟩ := h; rfl
  obtain ⟨a, o, rfl, ha, ho, hk⟩ := h
  refine as_set (i := 2) sc__law_strangers.nd rfl (.inl rfl) (AV.ae (av_lst (ds := ([("tell ?" : Str), ("point ? 1/2" : Str), ("cut ? 0 [ [" : Str), ("stretch ? 0 1 [" : Str), ("turn ?" : Str), ("raise ?" : Str)]).map D.str) (avs_c av_str (avs_c av_str (avs_c av_str (avs_c av_str (avs_c av_str (avs_c av_str avs_nil))))))) ?_)
  refine AS.ro (ρ' := [some (.str a), some (.str o), some (.fz (([("tell ?" : Str), ("point ? 1/2" : Str), ("cut ? 0 [ [" : Str), ("stretch ? 0 1 [" : Str), ("turn ?" : Str), ("raise ?" : Str)]).map D.str)), none]) ?_
  refine as_set (i := 2) sc__law_strangers.nd rfl (.inl rfl) (AV.ae (AV.is (av_cat (f := D.str) (xs := [("tell ?" : Str), ("point ? 1/2" : Str), ("cut ? 0 [ [" : Str), ("stretch ? 0 1 [" : Str), ("turn ?" : Str), ("raise ?" : Str)]) (ys := [("lower ?" : Str), ("least ?" : Str), ("speed ? [" : Str), ("hull ?" : Str), ("move ? 1 0 0 1 0 0" : Str), ("same [ ?" : Str)]) (av_var (i := 2) rfl (.inl rfl) rfl) (av_lst (ds := ([("lower ?" : Str), ("least ?" : Str), ("speed ? [" : Str), ("hull ?" : Str), ("move ? 1 0 0 1 0 0" : Str), ("same [ ?" : Str)]).map D.str) (avs_c av_str (avs_c av_str (avs_c av_str (avs_c av_str (avs_c av_str (avs_c av_str avs_nil))))))) (.fz _) (.fz _) (Nat.le_of_ble_eq_true rfl)) (show _ = D.fz (([("tell ?" : Str), ("point ? 1/2" : Str), ("cut ? 0 [ [" : Str), ("stretch ? 0 1 [" : Str), ("turn ?" : Str), ("raise ?" : Str), ("lower ?" : Str), ("least ?" : Str), ("speed ? [" : Str), ("hull ?" : Str), ("move ? 1 0 0 1 0 0" : Str), ("same [ ?" : Str)]).map D.str) from rfl)) ?_)
  refine AS.ro (ρ' := [some (.str a), some (.str o), some (.fz (([("tell ?" : Str), ("point ? 1/2" : Str), ("cut ? 0 [ [" : Str), ("stretch ? 0 1 [" : Str), ("turn ?" : Str), ("raise ?" : Str), ("lower ?" : Str), ("least ?" : Str), ("speed ? [" : Str), ("hull ?" : Str), ("move ? 1 0 0 1 0 0" : Str), ("same [ ?" : Str)]).map D.str)), none]) ?_
  refine as_set (i := 2) sc__law_strangers.nd rfl (.inl rfl) (AV.ae (AV.is (av_cat (f := D.str) (xs := [("tell ?" : Str), ("point ? 1/2" : Str), ("cut ? 0 [ [" : Str), ("stretch ? 0 1 [" : Str), ("turn ?" : Str), ("raise ?" : Str), ("lower ?" : Str), ("least ?" : Str), ("speed ? [" : Str), ("hull ?" : Str), ("move ? 1 0 0 1 0 0" : Str), ("same [ ?" : Str)]) (ys := [("part ? [" : Str), ("box ?" : Str), ("join [ ?" : Str), ("meet ? [ 0" : Str), ("same ? ?" : Str)]) (av_var (i := 2) rfl (.inl rfl) rfl) (av_lst (ds := ([("part ? [" : Str), ("box ?" : Str), ("join [ ?" : Str), ("meet ? [ 0" : Str), ("same ? ?" : Str)]).map D.str) (avs_c av_str (avs_c av_str (avs_c av_str (avs_c av_str (avs_c av_str avs_nil)))))) (.fz _) (.fz _) (Nat.le_of_ble_eq_true rfl)) (show _ = D.fz (([("tell ?" : Str), ("point ? 1/2" : Str), ("cut ? 0 [ [" : Str), ("stretch ? 0 1 [" : Str), ("turn ?" : Str), ("raise ?" : Str), ("lower ?" : Str), ("least ?" : Str), ("speed ? [" : Str), ("hull ?" : Str), ("move ? 1 0 0 1 0 0" : Str), ("same [ ?" : Str), ("part ? [" : Str), ("box ?" : Str), ("join [ ?" : Str), ("meet ? [ 0" : Str), ("same ? ?" : Str)]).map D.str) from rfl)) ?_)
  refine AS.ro (ρ' := [some (.str a), some (.str o), some (.fz (([("tell ?" : Str), ("point ? 1/2" : Str), ("cut ? 0 [ [" : Str), ("stretch ? 0 1 [" : Str), ("turn ?" : Str), ("raise ?" : Str), ("lower ?" : Str), ("least ?" : Str), ("speed ? [" : Str), ("hull ?" : Str), ("move ? 1 0 0 1 0 0" : Str), ("same [ ?" : Str), ("part ? [" : Str), ("box ?" : Str), ("join [ ?" : Str), ("meet ? [ 0" : Str), ("same ? ?" : Str)]).map D.str)), none]) ?_
  refine AS.ro (ρ' := [some (.str a), some (.str o), some (.fz (strangersT.map D.str)), none]) ?_
  exact as_retv (AV.is (av_lcF rfl sc__law_strangers.nd (blkOk_by rfl) (own := [("_law_text", 3)]) (is := [3]) (f := D.str) (F := fun i => fillS a "" o (strangersT.getD i default)) (by decide) (ai_F (default : Str) (f := D.str) (av_var (i := 2) rfl (.inl rfl) rfl) ⟨rfl, rfl, (Nat.le_of_ble_eq_true rfl), (fun _ x => trivial), fun i hi => ⟨_, fun s H C cl fp => ⟨(ag_name (i := 3) sc__law_strangers.nd rfl (.inl rfl)), fun A' x => (AE.av (ae_call (ok__law_filled T) (hr.mono (by decide)) rfl (AVs.aes (avs_c (av_var (i := 3) rfl (.inl rfl) rfl) (avs_c (av_var (i := 0) rfl (.inr (.inl rfl)) rfl) (avs_c av_str (avs_c (av_var (i := 1) rfl (.inr (.inl rfl)) rfl) avs_nil)))) ⟨_, _, _, _, rfl, noT_len.2.2.1 _ (getD_ll _ hi), ha, (by decide), ho, ⟨rfl, Ext.refl _⟩⟩)))⟩⟩⟩)) (show _ = D.fz ((strangersT.map (fillS a "" o)).map D.str) by rw [← map_range_get strangersT default (fillS a "" o)])) hk
def ct__law_no_rows : Ct := fun ds A k _ => ∃ (a b : Str), ds = [.str a, .str b] ∧ a.length ≤ 200 ∧ b.length ≤ 200 ∧ k (.fz (noRowsD a b)) A
theorem ok__law_no_rows (T : Txt K mg) : Fn P w K mg base "_law_no_rows" 2 ct__law_no_rows := by
  refine fn_mk T.d__law_no_rows sc__law_no_rows (fun ds A k e h => ?_) fun f cdv A0 outer s H E hr hp htk ds A kk ee h => ?_
  · obtain ⟨a, b, rfl, _⟩ := h; rfl
  obtain ⟨a, b, rfl, ha, hb, hk⟩ := h
  refine as_set (i := 2) sc__law_no_rows.nd rfl (.inl rfl) (AV.ae (av_lst (ds := ([("" : Str), (" " : Str), ("tell" : Str), ("tell " : Str), ("tell  [" : Str), (" tell [" : Str), ("tell [ " : Str), ("tell [ ]" : Str), ("Tell [" : Str)]).map D.str) (avs_c av_str (avs_c av_str (avs_c av_str (avs_c av_str (avs_c av_str (avs_c av_str (avs_c av_str (avs_c av_str (avs_c av_str avs_nil)))))))))) ?_)
  refine AS.ro (ρ' := [some (.str a), some (.str b), some (.fz (([("" : Str), (" " : Str), ("tell" : Str), ("tell " : Str), ("tell  [" : Str), (" tell [" : Str), ("tell [ " : Str), ("tell [ ]" : Str), ("Tell [" : Str)]).map D.str)), none]) ?_
  refine as_set (i := 2) sc__law_no_rows.nd rfl (.inl rfl) (AV.ae (AV.is (av_cat (f := D.str) (xs := [("" : Str), (" " : Str), ("tell" : Str), ("tell " : Str), ("tell  [" : Str), (" tell [" : Str), ("tell [ " : Str), ("tell [ ]" : Str), ("Tell [" : Str)]) (ys := [("names " : Str), ("names [" : Str), ("curve" : Str), ("curve [" : Str), ("curve [ " : Str), ("curves [ 1,1" : Str), ("curve [  1,1" : Str)]) (av_var (i := 2) rfl (.inl rfl) rfl) (av_lst (ds := ([("names " : Str), ("names [" : Str), ("curve" : Str), ("curve [" : Str), ("curve [ " : Str), ("curves [ 1,1" : Str), ("curve [  1,1" : Str)]).map D.str) (avs_c av_str (avs_c av_str (avs_c av_str (avs_c av_str (avs_c av_str (avs_c av_str (avs_c av_str avs_nil)))))))) (.fz _) (.fz _) (Nat.le_of_ble_eq_true rfl)) (show _ = D.fz (([("" : Str), (" " : Str), ("tell" : Str), ("tell " : Str), ("tell  [" : Str), (" tell [" : Str), ("tell [ " : Str), ("tell [ ]" : Str), ("Tell [" : Str), ("names " : Str), ("names [" : Str), ("curve" : Str), ("curve [" : Str), ("curve [ " : Str), ("curves [ 1,1" : Str), ("curve [  1,1" : Str)]).map D.str) from rfl)) ?_)
  refine AS.ro (ρ' := [some (.str a), some (.str b), some (.fz (([("" : Str), (" " : Str), ("tell" : Str), ("tell " : Str), ("tell  [" : Str), (" tell [" : Str), ("tell [ " : Str), ("tell [ ]" : Str), ("Tell [" : Str), ("names " : Str), ("names [" : Str), ("curve" : Str), ("curve [" : Str), ("curve [ " : Str), ("curves [ 1,1" : Str), ("curve [  1,1" : Str)]).map D.str)), none]) ?_
  refine as_set (i := 2) sc__law_no_rows.nd rfl (.inl rfl) (AV.ae (AV.is (av_cat (f := D.str) (xs := [("" : Str), (" " : Str), ("tell" : Str), ("tell " : Str), ("tell  [" : Str), (" tell [" : Str), ("tell [ " : Str), ("tell [ ]" : Str), ("Tell [" : Str), ("names " : Str), ("names [" : Str), ("curve" : Str), ("curve [" : Str), ("curve [ " : Str), ("curves [ 1,1" : Str), ("curve [  1,1" : Str)]) (ys := [("point [" : Str), ("cut [ 1/2 [" : Str), ("stretch [ 0 1" : Str), ("speed [" : Str), ("move [ 1 0 0 1 0" : Str), ("same [" : Str)]) (av_var (i := 2) rfl (.inl rfl) rfl) (av_lst (ds := ([("point [" : Str), ("cut [ 1/2 [" : Str), ("stretch [ 0 1" : Str), ("speed [" : Str), ("move [ 1 0 0 1 0" : Str), ("same [" : Str)]).map D.str) (avs_c av_str (avs_c av_str (avs_c av_str (avs_c av_str (avs_c av_str (avs_c av_str avs_nil))))))) (.fz _) (.fz _) (Nat.le_of_ble_eq_true rfl)) (show _ = D.fz (([("" : Str), (" " : Str), ("tell" : Str), ("tell " : Str), ("tell  [" : Str), (" tell [" : Str), ("tell [ " : Str), ("tell [ ]" : Str), ("Tell [" : Str), ("names " : Str), ("names [" : Str), ("curve" : Str), ("curve [" : Str), ("curve [ " : Str), ("curves [ 1,1" : Str), ("curve [  1,1" : Str), ("point [" : Str), ("cut [ 1/2 [" : Str), ("stretch [ 0 1" : Str), ("speed [" : Str), ("move [ 1 0 0 1 0" : Str), ("same [" : Str)]).map D.str) from rfl)) ?_)
  refine AS.ro (ρ' := [some (.str a), some (.str b), some (.fz (([("" : Str), (" " : Str), ("tell" : Str), ("tell " : Str), ("tell  [" : Str), (" tell [" : Str), ("tell [ " : Str), ("tell [ ]" : Str), ("Tell [" : Str), ("names " : Str), ("names [" : Str), ("curve" : Str), ("curve [" : Str), ("curve [ " : Str), ("curves [ 1,1" : Str), ("curve [  1,1" : Str), ("point [" : Str), ("cut [ 1/2 [" : Str), ("stretch [ 0 1" : Str), ("speed [" : Str), ("move [ 1 0 0 1 0" : Str), ("same [" : Str)]).map D.str)), none]) ?_
  refine as_set (i := 2) sc__law_no_rows.nd rfl (.inl rfl) (AV.ae (AV.is (av_cat (f := D.str) (xs := [("" : Str), (" " : Str), ("tell" : Str), ("tell " : Str), ("tell  [" : Str), (" tell [" : Str), ("tell [ " : Str), ("tell [ ]" : Str), ("Tell [" : Str), ("names " : Str), ("names [" : Str), ("curve" : Str), ("curve [" : Str), ("curve [ " : Str), ("curves [ 1,1" : Str), ("curve [  1,1" : Str), ("point [" : Str), ("cut [ 1/2 [" : Str), ("stretch [ 0 1" : Str), ("speed [" : Str), ("move [ 1 0 0 1 0" : Str), ("same [" : Str)]) (ys := [("meet [ ]" : Str), ("hull" : Str), ("box [ ]" : Str), ("part [" : Str), ("join [ ] 2" : Str), ("raise" : Str), ("lower [ 1" : Str), ("least" : Str)]) (av_var (i := 2) rfl (.inl rfl) rfl) (av_lst (ds := ([("meet [ ]" : Str), ("hull" : Str), ("box [ ]" : Str), ("part [" : Str), ("join [ ] 2" : Str), ("raise" : Str), ("lower [ 1" : Str), ("least" : Str)]).map D.str) (avs_c av_str (avs_c av_str (avs_c av_str (avs_c av_str (avs_c av_str (avs_c av_str (avs_c av_str (avs_c av_str avs_nil))))))))) (.fz _) (.fz _) (Nat.le_of_ble_eq_true rfl)) (show _ = D.fz (([("" : Str), (" " : Str), ("tell" : Str), ("tell " : Str), ("tell  [" : Str), (" tell [" : Str), ("tell [ " : Str), ("tell [ ]" : Str), ("Tell [" : Str), ("names " : Str), ("names [" : Str), ("curve" : Str), ("curve [" : Str), ("curve [ " : Str), ("curves [ 1,1" : Str), ("curve [  1,1" : Str), ("point [" : Str), ("cut [ 1/2 [" : Str), ("stretch [ 0 1" : Str), ("speed [" : Str), ("move [ 1 0 0 1 0" : Str), ("same [" : Str), ("meet [ ]" : Str), ("hull" : Str), ("box [ ]" : Str), ("part [" : Str), ("join [ ] 2" : Str), ("raise" : Str), ("lower [ 1" : Str), ("least" : Str)]).map D.str) from rfl)) ?_)
  refine AS.ro (ρ' := [some (.str a), some (.str b), some (.fz (([("" : Str), (" " : Str), ("tell" : Str), ("tell " : Str), ("tell  [" : Str), (" tell [" : Str), ("tell [ " : Str), ("tell [ ]" : Str), ("Tell [" : Str), ("names " : Str), ("names [" : Str), ("curve" : Str), ("curve [" : Str), ("curve [ " : Str), ("curves [ 1,1" : Str), ("curve [  1,1" : Str), ("point [" : Str), ("cut [ 1/2 [" : Str), ("stretch [ 0 1" : Str), ("speed [" : Str), ("move [ 1 0 0 1 0" : Str), ("same [" : Str), ("meet [ ]" : Str), ("hull" : Str), ("box [ ]" : Str), ("part [" : Str), ("join [ ] 2" : Str), ("raise" : Str), ("lower [ 1" : Str), ("least" : Str)]).map D.str)), none]) ?_
  refine as_set (i := 2) sc__law_no_rows.nd rfl (.inl rfl) (AV.ae (AV.is (av_cat (f := D.str) (xs := [("" : Str), (" " : Str), ("tell" : Str), ("tell " : Str), ("tell  [" : Str), (" tell [" : Str), ("tell [ " : Str), ("tell [ ]" : Str), ("Tell [" : Str), ("names " : Str), ("names [" : Str), ("curve" : Str), ("curve [" : Str), ("curve [ " : Str), ("curves [ 1,1" : Str), ("curve [  1,1" : Str), ("point [" : Str), ("cut [ 1/2 [" : Str), ("stretch [ 0 1" : Str), ("speed [" : Str), ("move [ 1 0 0 1 0" : Str), ("same [" : Str), ("meet [ ]" : Str), ("hull" : Str), ("box [ ]" : Str), ("part [" : Str), ("join [ ] 2" : Str), ("raise" : Str), ("lower [ 1" : Str), ("least" : Str)]) (ys := [("turn [ ]" : Str), ("move [ 1 0 0 1 0 0 0" : Str), ("speed [ ] ]" : Str), ("cut [ 1/2 [ ] ]" : Str), ("tell [\n" : Str), ("names\n" : Str)]) (av_var (i := 2) rfl (.inl rfl) rfl) (av_lst (ds := ([("turn [ ]" : Str), ("move [ 1 0 0 1 0 0 0" : Str), ("speed [ ] ]" : Str), ("cut [ 1/2 [ ] ]" : Str), ("tell [\n" : Str), ("names\n" : Str)]).map D.str) (avs_c av_str (avs_c av_str (avs_c av_str (avs_c av_str (avs_c av_str (avs_c av_str avs_nil))))))) (.fz _) (.fz _) (Nat.le_of_ble_eq_true rfl)) (show _ = D.fz (([("" : Str), (" " : Str), ("tell" : Str), ("tell " : Str), ("tell  [" : Str), (" tell [" : Str), ("tell [ " : Str), ("tell [ ]" : Str), ("Tell [" : Str), ("names " : Str), ("names [" : Str), ("curve" : Str), ("curve [" : Str), ("curve [ " : Str), ("curves [ 1,1" : Str), ("curve [  1,1" : Str), ("point [" : Str), ("cut [ 1/2 [" : Str), ("stretch [ 0 1" : Str), ("speed [" : Str), ("move [ 1 0 0 1 0" : Str), ("same [" : Str), ("meet [ ]" : Str), ("hull" : Str), ("box [ ]" : Str), ("part [" : Str), ("join [ ] 2" : Str), ("raise" : Str), ("lower [ 1" : Str), ("least" : Str), ("turn [ ]" : Str), ("move [ 1 0 0 1 0 0 0" : Str), ("speed [ ] ]" : Str), ("cut [ 1/2 [ ] ]" : Str), ("tell [\n" : Str), ("names\n" : Str)]).map D.str) from rfl)) ?_)
  refine AS.ro (ρ' := [some (.str a), some (.str b), some (.fz (([("" : Str), (" " : Str), ("tell" : Str), ("tell " : Str), ("tell  [" : Str), (" tell [" : Str), ("tell [ " : Str), ("tell [ ]" : Str), ("Tell [" : Str), ("names " : Str), ("names [" : Str), ("curve" : Str), ("curve [" : Str), ("curve [ " : Str), ("curves [ 1,1" : Str), ("curve [  1,1" : Str), ("point [" : Str), ("cut [ 1/2 [" : Str), ("stretch [ 0 1" : Str), ("speed [" : Str), ("move [ 1 0 0 1 0" : Str), ("same [" : Str), ("meet [ ]" : Str), ("hull" : Str), ("box [ ]" : Str), ("part [" : Str), ("join [ ] 2" : Str), ("raise" : Str), ("lower [ 1" : Str), ("least" : Str), ("turn [ ]" : Str), ("move [ 1 0 0 1 0 0 0" : Str), ("speed [ ] ]" : Str), ("cut [ 1/2 [ ] ]" : Str), ("tell [\n" : Str), ("names\n" : Str)]).map D.str)), none]) ?_
  refine AS.ro (ρ' := [some (.str a), some (.str b), some (.fz (noRowsT.map D.str)), none]) ?_
  have k1 : (("tell " : Str)).length = 5 := rfl
  exact as_retv (AV.is (av_cat (f := id) (AV.is (av_lst (avs_c av_non (avs_c av_int (avs_c av_bl (avs_c (av_lst (avs_c (av_catS av_str (av_var (i := 0) rfl (.inr (.inl rfl)) rfl) (Nat.le_of_lt (small_sz (by rw [k1]; omega)))) avs_nil)) (avs_c (av_tup (avs_c av_str avs_nil)) avs_nil)))))) (show _ = D.fz (([.non, .int 7, .bl true, .fz [.str (("tell " : Str) ++ a)], .tup [.str "names"]] : List D).map id) by rw [List.map_id])) (AV.is (AV.is (av_lcF rfl sc__law_no_rows.nd (blkOk_by rfl) (own := [("_law_text", 3)]) (is := [3]) (f := D.str) (F := fun i => fillS a b "" (noRowsT.getD i default)) (by decide) (ai_F (default : Str) (f := D.str) (av_var (i := 2) rfl (.inl rfl) rfl) ⟨rfl, rfl, (Nat.le_of_ble_eq_true rfl), (fun _ x => trivial), fun i hi => ⟨_, fun s H C cl fp => ⟨(ag_name (i := 3) sc__law_no_rows.nd rfl (.inl rfl)), fun A' x => (AE.av (ae_call (ok__law_filled T) (hr.mono (by decide)) rfl (AVs.aes (avs_c (av_var (i := 3) rfl (.inl rfl) rfl) (avs_c (av_var (i := 0) rfl (.inr (.inl rfl)) rfl) (avs_c (av_var (i := 1) rfl (.inr (.inl rfl)) rfl) (avs_c av_str avs_nil)))) ⟨_, _, _, _, rfl, noT_len.2.2.2 _ (getD_ll _ hi), ha, hb, (by decide), ⟨rfl, Ext.refl _⟩⟩)))⟩⟩⟩)) (show _ = D.fz ((noRowsT.map (fillS a b "")).map D.str) by rw [← map_range_get noRowsT default (fillS a b "")])) (show _ = D.fz (((noRowsT.map (fillS a b "")).map D.str).map id) by rw [List.map_id])) (.fz _) (.fz _) (Nat.le_of_ble_eq_true rfl)) (show _ = D.fz (noRowsD a b) by rw [List.map_id]; rfl)) hk
theorem row4 (c : Int) {m i : Nat} (h : i < m) : ((List.range m).map (stC c)).getD i 0 = stC c i := by
  rw [List.getD_eq_getElem?_getD, List.getElem?_map, List.getElem?_range h]; rfl
structure CaseOk (bk : List (Str × List Pt)) (ns : List Str) (st : Str) : Prop where
  len : ns.length = 3
  nm : ∀ n ∈ ns, NameL (TL.tl n)
  stn : NameL (TL.tl st)
  no : lkB bk st = none
  r12 : ∃ row, lkB bk (ns.getD 1 default) = some row ∧ row.length = 12 ∧ ∀ p ∈ row, SzP 200 p
  r1 : ∃ row, lkB bk (ns.getD 2 default) = some row ∧ row.length = 1 ∧ Rw 200 row
theorem ns_name {ns : List Str} (h : ∀ n ∈ ns, NameL (TL.tl n)) {i : Nat} (hi : i < ns.length) : NameL (TL.tl (ns.getD i default)) := h _ (getD_ll _ hi)
theorem rows_ref {bk : List (Str × List Pt)} {a b : Str} (ha : NameL (TL.tl a)) (hb : NameL (TL.tl b)) : ∀ d ∈ noRowsD a b, RefK bk d 0 := by
  intro d hd
  have h1 := name_len ha
  have h2 := name_len hb
  rcases List.mem_append.mp hd with hd | hd
  · simp only [List.mem_cons, List.not_mem_nil, or_false] at hd
    rcases hd with rfl | rfl | rfl | rfl | rfl
    · exact .inl ⟨rfl, "NoneType", fun A => .non, kt_NoneType_str⟩
    · exact .inl ⟨rfl, "int", fun A => .int 7, kt_int_str⟩
    · exact .inl ⟨rfl, "bool", fun A => .bl true, kt_bool_str⟩
    · exact .inl ⟨rfl, "list", fun A => .lst IsL.fz, kt_list_str⟩
    · exact .inl ⟨rfl, "tuple", fun A => .tup _, kt_tuple_str⟩
  · obtain ⟨x, hx, rfl⟩ := List.mem_map.mp hd
    obtain ⟨t, ht, rfl⟩ := List.mem_map.mp hx
    exact .inr (.inl ⟨rfl, _, rfl, Nat.le_trans (fillS_len (by omega) (by omega) (by decide) (noT_len.2.2.2 t ht)) (by decide), nr_bad ha hb t ht⟩)
def ct__law_case : Ct := fun ds A k _ => ∃ (c : Int) (ns : List Str) (st : Str) (bk : List (Str × List Pt)), ds = [.int c, .fz (ns.map D.str), .str st] ∧ CaseOk bk ns st ∧ ∀ d kind, RefK bk d kind → k (.tup [d, .int kind]) A
theorem ok__law_case (T : Txt K mg) : Fn P w K mg base "_law_case" 3 ct__law_case := by
  refine fn_mk T.d__law_case sc__law_case (fun ds A k e h => ?_) fun f cdv A0 outer s H E hr hp htk ds A kk ee h => ?_
  · obtain ⟨c, ns, st, bk, rfl, _⟩ := h; rfl
  obtain ⟨c, ns, st, bk, rfl, hC, hk⟩ := h
  have hl3 := hC.len
  refine as_set (i := 3) sc__law_case.nd rfl (.inl rfl) (AV.ae (AE.av (ae_call (ok__law_stream T) (hr.mono (by decide)) rfl (AVs.aes (avs_c (av_var (i := 0) rfl (.inl rfl) rfl) (avs_c av_int avs_nil)) ⟨_, 4, rfl, by decide, ⟨rfl, Ext.refl _⟩⟩))) ?_)
  refine AS.ro (ρ' := [some (.int c), some (.fz (ns.map D.str)), some (.str st), some (.fz (((List.range 4).map (stC c)).map D.int)), none, none, none, none]) ?_
  have ha3 : 0 ≤ stC c 0 % 3 ∧ stC c 0 % 3 < 3 := ⟨Int.emod_nonneg _ (by decide), Int.emod_lt_of_pos _ (by decide)⟩
  refine as_set (i := 4) sc__law_case.nd rfl (.inl rfl) (AV.ae (av_ixD (f := D.str) default (av_var (i := 1) rfl (.inl rfl) rfl) IsL.fz (av_mod (AV.is (av_ixDN (f := D.int) (0 : Int) (av_var (i := 3) rfl (.inl rfl) rfl) IsL.fz av_int (n := 0) rfl (by simp)) (show _ = D.int (stC c 0) by rw [row4 c (by decide)])) av_int (by decide)) ha3.1 (by omega)) ?_)
  refine AS.ro (ρ' := [some (.int c), some (.fz (ns.map D.str)), some (.str st), some (.fz (((List.range 4).map (stC c)).map D.int)), some (.str (ns.getD (stC c 0 % 3).toNat default)), none, none, none]) ?_
  have hb3 : 0 ≤ stC c 1 % 3 ∧ stC c 1 % 3 < 3 := ⟨Int.emod_nonneg _ (by decide), Int.emod_lt_of_pos _ (by decide)⟩
  refine as_set (i := 5) sc__law_case.nd rfl (.inl rfl) (AV.ae (av_ixD (f := D.str) default (av_var (i := 1) rfl (.inl rfl) rfl) IsL.fz (av_mod (AV.is (av_ixDN (f := D.int) (0 : Int) (av_var (i := 3) rfl (.inl rfl) rfl) IsL.fz av_int (n := 1) rfl (by simp)) (show _ = D.int (stC c 1) by rw [row4 c (by decide)])) av_int (by decide)) hb3.1 (by omega)) ?_)
  refine AS.ro (ρ' := [some (.int c), some (.fz (ns.map D.str)), some (.str st), some (.fz (((List.range 4).map (stC c)).map D.int)), some (.str (ns.getD (stC c 0 % 3).toNat default)), some (.str (ns.getD (stC c 1 % 3).toNat default)), none, none]) ?_
  refine as_set (i := 6) sc__law_case.nd rfl (.inl rfl) (AV.ae (av_mod (AV.is (av_ixDN (f := D.int) (0 : Int) (av_var (i := 3) rfl (.inl rfl) rfl) IsL.fz av_int (n := 2) rfl (by simp)) (show _ = D.int (stC c 2) by rw [row4 c (by decide)])) av_int (by decide)) ?_)
  refine AS.ro (ρ' := [some (.int c), some (.fz (ns.map D.str)), some (.str st), some (.fz (((List.range 4).map (stC c)).map D.int)), some (.str (ns.getD (stC c 0 % 3).toNat default)), some (.str (ns.getD (stC c 1 % 3).toNat default)), some (.int (stC c 2 % 7)), none]) ?_
  refine as_ifm (fun ρ A' => ∃ a b : Str, NameL (TL.tl a) ∧ NameL (TL.tl b) ∧ ρ = [some (.int c), some (.fz (ns.map D.str)), some (.str st), some (.fz (((List.range 4).map (stC c)).map D.int)), some (.str a), some (.str b), some (.int (stC c 2 % 7)), none] ∧ A = A') (at_inTi (av_var (i := 6) rfl (.inl rfl) rfl) (AV.is (av_tup (avs_c av_int (avs_c av_int avs_nil))) (show _ = D.tup (([2, 4] : List Int).map D.int) from rfl))) (fun _ => ?_) (fun _ => ?_) ?_
  · have ha2 : 0 ≤ stC c 0 % 2 * 2 ∧ stC c 0 % 2 * 2 < 3 := by omega
    have hb2 : 0 ≤ stC c 1 % 2 * 2 ∧ stC c 1 % 2 * 2 < 3 := by omega
    refine as_set (i := 4) sc__law_case.nd rfl (.inl rfl) (AV.ae (av_ixD (f := D.str) default (av_var (i := 1) rfl (.inl rfl) rfl) IsL.fz (av_mulS (av_mod (AV.is (av_ixDN (f := D.int) (0 : Int) (av_var (i := 3) rfl (.inl rfl) rfl) IsL.fz av_int (n := 0) rfl (by simp)) (show _ = D.int (stC c 0) by rw [row4 c (by decide)])) av_int (by decide)) av_int (.inr (by decide))) ha2.1 (by omega)) ?_)
    refine as_set (i := 5) sc__law_case.nd rfl (.inl rfl) (AV.ae (av_ixD (f := D.str) default (av_var (i := 1) rfl (.inl rfl) rfl) IsL.fz (av_mulS (av_mod (AV.is (av_ixDN (f := D.int) (0 : Int) (av_var (i := 3) rfl (.inl rfl) rfl) IsL.fz av_int (n := 1) rfl (by simp)) (show _ = D.int (stC c 1) by rw [row4 c (by decide)])) av_int (by decide)) av_int (.inr (by decide))) hb2.1 (by omega)) ?_)
    exact as_nil ⟨_, _, ns_name hC.nm (by omega), ns_name hC.nm (by omega), rfl, rfl⟩
  · exact as_nil ⟨_, _, ns_name hC.nm (by omega), ns_name hC.nm (by omega), rfl, rfl⟩
  rintro ρ A' ⟨a, b, ha, hb, rfl, rfl⟩
  have hla := name_len ha
  have hlb := name_len hb
  have hls := name_len hC.stn
  refine as_if (at_eq (av_var (i := 6) rfl (.inl rfl) rfl) av_int) (fun hb9 => ?_) (fun hb9 => as_end ?_)
  · have hix : 0 ≤ stC c 3 % (9 : Nat) ∧ stC c 3 % (9 : Nat) < (9 : Nat) := ⟨Int.emod_nonneg _ (by decide), Int.emod_lt_of_pos _ (by decide)⟩
    refine as_set (i := 7) sc__law_case.nd rfl (.inl rfl) (AV.ae (av_lst (ds := ([("" : Str), ("x" : Str), ("1/0" : Str), ("2/4" : Str), ("1/1" : Str), ("01" : Str), ("-0" : Str), ("+1" : Str), ("1/-2" : Str), ("1/2/3" : Str), ("1/" : Str), ("/2" : Str), ("-" : Str), ("1.5" : Str), ("0/1" : Str)]).map D.str) (avs_c av_str (avs_c av_str (avs_c av_str (avs_c av_str (avs_c av_str (avs_c av_str (avs_c av_str (avs_c av_str (avs_c av_str (avs_c av_str (avs_c av_str (avs_c av_str (avs_c av_str (avs_c av_str (avs_c av_str avs_nil)))))))))))))))) ?_)
    refine AS.ro (ρ' := [some (.int c), some (.fz (ns.map D.str)), some (.str st), some (.fz (((List.range 4).map (stC c)).map D.int)), some (.str a), some (.str b), some (.int (stC c 2 % 7)), some (.fz (([("" : Str), ("x" : Str), ("1/0" : Str), ("2/4" : Str), ("1/1" : Str), ("01" : Str), ("-0" : Str), ("+1" : Str), ("1/-2" : Str), ("1/2/3" : Str), ("1/" : Str), ("/2" : Str), ("-" : Str), ("1.5" : Str), ("0/1" : Str)]).map D.str))]) ?_
    have hio : 0 ≤ stC c 3 / 16 % 16 ∧ stC c 3 / 16 % 16 < 16 := ⟨Int.emod_nonneg _ (by decide), Int.emod_lt_of_pos _ (by decide)⟩
    obtain ⟨o, ho⟩ : ∃ o, o = oddsS.getD (stC c 3 / 16 % 16).toNat default := ⟨_, rfl⟩
    have hom : o ∈ oddsS := by rw [ho]; exact getD_ll _ (show (stC c 3 / 16 % 16).toNat < 16 by omega)
    have hok := oddsS_ok o hom
    refine as_set (i := 7) sc__law_case.nd rfl (.inl rfl) (AV.ae (AE.av (ae_call (ok__law_no_words T) (hr.mono (by decide)) rfl (AVs.aes (avs_c (av_var (i := 4) rfl (.inl rfl) rfl) (avs_c (av_var (i := 5) rfl (.inl rfl) rfl) (avs_c (AV.is (av_ixD (f := D.str) default (AV.is (av_cat (f := D.str) (xs := [("" : Str), ("x" : Str), ("1/0" : Str), ("2/4" : Str), ("1/1" : Str), ("01" : Str), ("-0" : Str), ("+1" : Str), ("1/-2" : Str), ("1/2/3" : Str), ("1/" : Str), ("/2" : Str), ("-" : Str), ("1.5" : Str), ("0/1" : Str)]) (ys := [repS "1" 101]) (av_var (i := 7) rfl (.inl rfl) rfl) (av_lst (ds := ([repS "1" 101] : List Str).map D.str) (avs_c (av_mulS1 av_str av_int (by decide) (by decide) (by decide) (by decide) (by decide) (Nat.le_of_lt (small_sz (by decide +kernel)))) avs_nil)) (.fz _) (.fz _) (Nat.le_of_ble_eq_true rfl)) (show _ = D.fz (oddsS.map D.str) from rfl)) IsL.fz (av_mod (av_div (AV.is (av_ixDN (f := D.int) (0 : Int) (av_var (i := 3) rfl (.inl rfl) rfl) IsL.fz av_int (n := 3) rfl (by simp)) (show _ = D.int (stC c 3) by rw [row4 c (by decide)])) av_int (divw (by decide) (show (16 : Int).natAbs < 2 ^ 10 by decide) (by decide) (by decide))) av_int (by decide)) hio.1 (show _ < ((16 : Nat) : Int) by omega)) (show _ = D.str o by rw [ho])) avs_nil))) ⟨_, _, _, rfl, by omega, by omega, by have := hok.2.2.2; omega, ⟨rfl, Ext.refl _⟩⟩))) ?_)
    refine AS.ro (ρ' := [some (.int c), some (.fz (ns.map D.str)), some (.str st), some (.fz (((List.range 4).map (stC c)).map D.int)), some (.str a), some (.str b), some (.int (stC c 2 % 7)), some (.fz ((noWordsT.map (fillS a b o)).map D.str))]) ?_
    obtain ⟨x, hx⟩ : ∃ x, x = (noWordsT.map (fillS a b o)).getD (stC c 3 % (9 : Nat)).toNat default := ⟨_, rfl⟩
    have hxm : x ∈ noWordsT.map (fillS a b o) := by rw [hx]; exact getD_ll _ (show (stC c 3 % (9 : Nat)).toNat < 9 by omega)
    refine as_retv (AV.is (av_tup (avs_c (av_ixD (f := D.str) default (av_var (i := 7) rfl (.inl rfl) rfl) IsL.fz (av_mod (AV.is (av_ixDN (f := D.int) (0 : Int) (av_var (i := 3) rfl (.inl rfl) rfl) IsL.fz av_int (n := 3) rfl (by simp)) (show _ = D.int (stC c 3) by rw [row4 c (by decide)])) (av_lenD rfl T.m_len (av_var (i := 7) rfl (.inl rfl) rfl) IsL.fz) (show (0 : Int) < ((9 : Nat) : Int) by decide)) hix.1 hix.2) (avs_c av_int avs_nil))) (show _ = D.tup [.str x, .int 0] by rw [hx]; rfl)) (hk _ _ ?_)
    obtain ⟨t, ht, e⟩ := List.mem_map.mp hxm
    rw [← e]
    exact .inr (.inl ⟨rfl, _, rfl, Nat.le_trans (fillS_len (by omega) (by omega) (by have := hok.2.2.2; omega) (noT_len.1 t ht)) (by decide), nw_bad ha hb hok.1 hok.2.1 (no_s hok.2.2.1) t ht⟩)
  refine as_if (at_eq (av_var (i := 6) rfl (.inl rfl) rfl) av_int) (fun hb9 => ?_) (fun hb9 => as_end ?_)
  · have hix : 0 ≤ stC c 3 % (9 : Nat) ∧ stC c 3 % (9 : Nat) < (9 : Nat) := ⟨Int.emod_nonneg _ (by decide), Int.emod_lt_of_pos _ (by decide)⟩
    refine as_set (i := 7) sc__law_case.nd rfl (.inl rfl) (AV.ae (av_lst (ds := ([("" : Str), ("A" : Str), ("aB" : Str), ("a1" : Str), ("abcdefghijklm" : Str), ("a_" : Str), ("-" : Str), ("7" : Str), ("*" : Str)]).map D.str) (avs_c av_str (avs_c av_str (avs_c av_str (avs_c av_str (avs_c av_str (avs_c av_str (avs_c av_str (avs_c av_str (avs_c av_str avs_nil)))))))))) ?_)
    refine AS.ro (ρ' := [some (.int c), some (.fz (ns.map D.str)), some (.str st), some (.fz (((List.range 4).map (stC c)).map D.int)), some (.str a), some (.str b), some (.int (stC c 2 % 7)), some (.fz (([("" : Str), ("A" : Str), ("aB" : Str), ("a1" : Str), ("abcdefghijklm" : Str), ("a_" : Str), ("-" : Str), ("7" : Str), ("*" : Str)]).map D.str))]) ?_
    have hio : 0 ≤ stC c 3 / 16 % 9 ∧ stC c 3 / 16 % 9 < 9 := ⟨Int.emod_nonneg _ (by decide), Int.emod_lt_of_pos _ (by decide)⟩
    obtain ⟨o, ho⟩ : ∃ o, o = oddsN.getD (stC c 3 / 16 % 9).toNat default := ⟨_, rfl⟩
    have hom : o ∈ oddsN := by rw [ho]; exact getD_ll _ (show (stC c 3 / 16 % 9).toNat < 9 by omega)
    have hok := oddsN_ok o hom
    refine as_set (i := 7) sc__law_case.nd rfl (.inl rfl) (AV.ae (AE.av (ae_call (ok__law_no_names T) (hr.mono (by decide)) rfl (AVs.aes (avs_c (av_var (i := 4) rfl (.inl rfl) rfl) (avs_c (av_var (i := 5) rfl (.inl rfl) rfl) (avs_c (AV.is (av_ixD (f := D.str) default (AV.is (av_var (i := 7) rfl (.inl rfl) rfl) (show _ = D.fz (oddsN.map D.str) from rfl)) IsL.fz (av_mod (av_div (AV.is (av_ixDN (f := D.int) (0 : Int) (av_var (i := 3) rfl (.inl rfl) rfl) IsL.fz av_int (n := 3) rfl (by simp)) (show _ = D.int (stC c 3) by rw [row4 c (by decide)])) av_int (divw (by decide) (show (16 : Int).natAbs < 2 ^ 10 by decide) (by decide) (by decide))) av_int (by decide)) hio.1 (show _ < ((9 : Nat) : Int) by omega)) (show _ = D.str o by rw [ho])) avs_nil))) ⟨_, _, _, rfl, by omega, by omega, by have := hok.2.2; omega, ⟨rfl, Ext.refl _⟩⟩))) ?_)
    refine AS.ro (ρ' := [some (.int c), some (.fz (ns.map D.str)), some (.str st), some (.fz (((List.range 4).map (stC c)).map D.int)), some (.str a), some (.str b), some (.int (stC c 2 % 7)), some (.fz ((noNamesT.map (fillS a b o)).map D.str))]) ?_
    obtain ⟨x, hx⟩ : ∃ x, x = (noNamesT.map (fillS a b o)).getD (stC c 3 % (9 : Nat)).toNat default := ⟨_, rfl⟩
    have hxm : x ∈ noNamesT.map (fillS a b o) := by rw [hx]; exact getD_ll _ (show (stC c 3 % (9 : Nat)).toNat < 9 by omega)
    refine as_retv (AV.is (av_tup (avs_c (av_ixD (f := D.str) default (av_var (i := 7) rfl (.inl rfl) rfl) IsL.fz (av_mod (AV.is (av_ixDN (f := D.int) (0 : Int) (av_var (i := 3) rfl (.inl rfl) rfl) IsL.fz av_int (n := 3) rfl (by simp)) (show _ = D.int (stC c 3) by rw [row4 c (by decide)])) (av_lenD rfl T.m_len (av_var (i := 7) rfl (.inl rfl) rfl) IsL.fz) (show (0 : Int) < ((9 : Nat) : Int) by decide)) hix.1 hix.2) (avs_c av_int avs_nil))) (show _ = D.tup [.str x, .int 0] by rw [hx]; rfl)) (hk _ _ ?_)
    obtain ⟨t, ht, e⟩ := List.mem_map.mp hxm
    rw [← e]
    exact .inr (.inl ⟨rfl, _, rfl, Nat.le_trans (fillS_len (by omega) (by omega) (by have := hok.2.2; omega) (noT_len.2.1 t ht)) (by decide), nn_bad ha hb hok.1 (no_n hok.2.1) t ht⟩)
  refine as_if (at_eq (av_var (i := 6) rfl (.inl rfl) rfl) av_int) (fun hb9 => ?_) (fun hb9 => as_end ?_)
  · have hix : 0 ≤ stC c 3 % (17 : Nat) ∧ stC c 3 % (17 : Nat) < (17 : Nat) := ⟨Int.emod_nonneg _ (by decide), Int.emod_lt_of_pos _ (by decide)⟩
    refine as_set (i := 7) sc__law_case.nd rfl (.inl rfl) (AV.ae (AE.av (ae_call (ok__law_strangers T) (hr.mono (by decide)) rfl (AVs.aes (avs_c (av_var (i := 4) rfl (.inl rfl) rfl) (avs_c (av_var (i := 2) rfl (.inl rfl) rfl) avs_nil)) ⟨_, _, rfl, by omega, by omega, ⟨rfl, Ext.refl _⟩⟩))) ?_)
    refine AS.ro (ρ' := [some (.int c), some (.fz (ns.map D.str)), some (.str st), some (.fz (((List.range 4).map (stC c)).map D.int)), some (.str a), some (.str b), some (.int (stC c 2 % 7)), some (.fz ((strangersT.map (fillS a "" st)).map D.str))]) ?_
    obtain ⟨x, hx⟩ : ∃ x, x = (strangersT.map (fillS a "" st)).getD (stC c 3 % (17 : Nat)).toNat default := ⟨_, rfl⟩
    have hxm : x ∈ strangersT.map (fillS a "" st) := by rw [hx]; exact getD_ll _ (show (stC c 3 % (17 : Nat)).toNat < 17 by omega)
    refine as_retv (AV.is (av_tup (avs_c (av_ixD (f := D.str) default (av_var (i := 7) rfl (.inl rfl) rfl) IsL.fz (av_mod (AV.is (av_ixDN (f := D.int) (0 : Int) (av_var (i := 3) rfl (.inl rfl) rfl) IsL.fz av_int (n := 3) rfl (by simp)) (show _ = D.int (stC c 3) by rw [row4 c (by decide)])) (av_lenD rfl T.m_len (av_var (i := 7) rfl (.inl rfl) rfl) IsL.fz) (show (0 : Int) < ((17 : Nat) : Int) by decide)) hix.1 hix.2) (avs_c av_int avs_nil))) (show _ = D.tup [.str x, .int 1] by rw [hx]; rfl)) (hk _ _ ?_)
    obtain ⟨t, ht, e⟩ := List.mem_map.mp hxm
    rw [← e]
    exact .inr (.inr (.inl ⟨rfl, _, rfl, Nat.le_trans (fillS_len (by omega) (by decide) (by omega) (noT_len.2.2.1 t ht)) (by decide), st_bad ha hC.stn hC.no t ht⟩))
  refine as_if (at_eq (av_var (i := 6) rfl (.inl rfl) rfl) av_int) (fun hb9 => ?_) (fun hb9 => as_end ?_)
  · have k1 : (("raise " : Str)).length = 6 := rfl
    have k2 : (("lower " : Str)).length = 6 := rfl
    have hn1 := ns_name hC.nm (show 1 < ns.length by omega)
    have hn2 := ns_name hC.nm (show 2 < ns.length by omega)
    have hl1 := name_len hn1
    have hl2 := name_len hn2
    have hio : 0 ≤ stC c 3 % 2 ∧ stC c 3 % 2 < 2 := ⟨Int.emod_nonneg _ (by decide), Int.emod_lt_of_pos _ (by decide)⟩
    refine as_retv (av_ixD (f := id) D.non (AV.is (av_lst (avs_c (av_tup (avs_c (av_catS av_str (av_ixDN (f := D.str) default (av_var (i := 1) rfl (.inl rfl) rfl) IsL.fz av_int (n := 1) rfl (by omega)) (Nat.le_of_lt (small_sz (by rw [k1]; omega)))) (avs_c av_int avs_nil))) (avs_c (av_tup (avs_c (av_catS av_str (av_ixDN (f := D.str) default (av_var (i := 1) rfl (.inl rfl) rfl) IsL.fz av_int (n := 2) rfl (by omega)) (Nat.le_of_lt (small_sz (by rw [k2]; omega)))) (avs_c av_int avs_nil))) avs_nil))) (show _ = D.fz (([.tup [.str (("raise " : Str) ++ ns.getD 1 default), .int 2], .tup [.str (("lower " : Str) ++ ns.getD 2 default), .int 3]] : List D).map id) from rfl)) IsL.fz (av_mod (AV.is (av_ixDN (f := D.int) (0 : Int) (av_var (i := 3) rfl (.inl rfl) rfl) IsL.fz av_int (n := 3) rfl (by simp)) (show _ = D.int (stC c 3) by rw [row4 c (by decide)])) av_int (by decide)) hio.1 (show _ < ((2 : Nat) : Int) by omega)) ?_
    have hz : (stC c 3 % 2).toNat = 0 ∨ (stC c 3 % 2).toNat = 1 := by omega
    rcases hz with hz | hz
    · rw [hz]
      obtain ⟨row, g1, g2, g3⟩ := hC.r12
      exact hk _ _ (.inr (.inr (.inr (.inl ⟨rfl, _, row, rfl, hn1, g1, g2, g3⟩))))
    · rw [hz]
      obtain ⟨row, g1, g2, g3⟩ := hC.r1
      exact hk _ _ (.inr (.inr (.inr (.inr ⟨rfl, _, row, rfl, hn2, g1, g2, g3⟩))))
  refine as_if (at_eq (av_var (i := 6) rfl (.inl rfl) rfl) av_int) (fun hb9 => ?_) (fun hb9 => as_end ?_)
  · have k1 : (("meet " : Str)).length = 5 := rfl
    have k2 : ((" " : Str)).length = 1 := rfl
    have hio : 0 ≤ stC c 3 % 8 ∧ stC c 3 % 8 < 8 := ⟨Int.emod_nonneg _ (by decide), Int.emod_lt_of_pos _ (by decide)⟩
    have hlm : ∀ o ∈ oddsM, o.length ≤ 10 := by decide
    obtain ⟨o, ho⟩ : ∃ o, o = oddsM.getD (stC c 3 % 8).toNat default := ⟨_, rfl⟩
    have hom : o ∈ oddsM := by rw [ho]; exact getD_ll _ (show (stC c 3 % 8).toNat < 8 by omega)
    have hol := hlm o hom
    refine as_set (i := 7) sc__law_case.nd rfl (.inl rfl) (AV.ae (AV.is (av_lst (ds := ([("7" : Str), ("-1" : Str), ("01" : Str), ("" : Str), ("x" : Str), ("1/2" : Str), ("10" : Str), (" 0" : Str)]).map D.str) (avs_c av_str (avs_c av_str (avs_c av_str (avs_c av_str (avs_c av_str (avs_c av_str (avs_c av_str (avs_c av_str avs_nil))))))))) (show _ = D.fz (oddsM.map D.str) from rfl)) ?_)
    refine AS.ro (ρ' := [some (.int c), some (.fz (ns.map D.str)), some (.str st), some (.fz (((List.range 4).map (stC c)).map D.int)), some (.str a), some (.str b), some (.int (stC c 2 % 7)), some (.fz (oddsM.map D.str))]) ?_
    exact as_retv (av_tup (avs_c (av_catS (av_catS (av_catS (av_catS (av_catS av_str (av_var (i := 4) rfl (.inl rfl) rfl) (Nat.le_of_lt (small_sz (by simp only [len_cat, k1, k2]; omega)))) av_str (Nat.le_of_lt (small_sz (by simp only [len_cat, k1, k2]; omega)))) (av_var (i := 5) rfl (.inl rfl) rfl) (Nat.le_of_lt (small_sz (by simp only [len_cat, k1, k2]; omega)))) av_str (Nat.le_of_lt (small_sz (by simp only [len_cat, k1, k2]; omega)))) (AV.is (av_ixD (f := D.str) default (av_var (i := 7) rfl (.inl rfl) rfl) IsL.fz (av_mod (AV.is (av_ixDN (f := D.int) (0 : Int) (av_var (i := 3) rfl (.inl rfl) rfl) IsL.fz av_int (n := 3) rfl (by simp)) (show _ = D.int (stC c 3) by rw [row4 c (by decide)])) av_int (by decide)) hio.1 (show _ < ((8 : Nat) : Int) by omega)) (show _ = D.str o by rw [ho])) (Nat.le_of_lt (small_sz (by simp only [len_cat, k1, k2]; omega)))) (avs_c av_int avs_nil))) (hk _ _ (.inr (.inl ⟨rfl, _, rfl, by simp only [len_cat, k1, k2]; omega, meet_bad ha hb o hom⟩)))
  refine as_if (at_eq (av_var (i := 6) rfl (.inl rfl) rfl) av_int) (fun hb9 => ?_) (fun hb9 => as_end ?_)
  · have k1 : (("curve " : Str)).length = 6 := rfl
    have k2 : ((" " : Str)).length = 1 := rfl
    have hio : 0 ≤ stC c 3 % 9 ∧ stC c 3 % 9 < 9 := ⟨Int.emod_nonneg _ (by decide), Int.emod_lt_of_pos _ (by decide)⟩
    obtain ⟨o, ho⟩ : ∃ o, o = oddsC.getD (stC c 3 % 9).toNat default := ⟨_, rfl⟩
    have hom : o ∈ oddsC := by rw [ho]; exact getD_ll _ (show (stC c 3 % 9).toNat < 9 by omega)
    have hol := (oddsC_ok o hom).2
    refine as_set (i := 7) sc__law_case.nd rfl (.inl rfl) (AV.ae (AV.is (av_lst (ds := oddsC.map D.str) (avs_c av_str (avs_c av_str (avs_c av_str (avs_c av_str (avs_c av_str (avs_c av_str (avs_c (av_catS av_str (av_mulS1 av_str av_int (by decide) (by decide) (by decide) (by decide) (by decide) (Nat.le_of_lt (small_sz (by decide +kernel)))) (Nat.le_of_lt (small_sz (by decide +kernel)))) (avs_c av_str (avs_c av_str avs_nil)))))))))) (show _ = D.fz (oddsC.map D.str) from rfl)) ?_)
    refine AS.ro (ρ' := [some (.int c), some (.fz (ns.map D.str)), some (.str st), some (.fz (((List.range 4).map (stC c)).map D.int)), some (.str a), some (.str b), some (.int (stC c 2 % 7)), some (.fz (oddsC.map D.str))]) ?_
    exact as_retv (av_tup (avs_c (av_catS (av_catS (av_catS av_str (av_var (i := 4) rfl (.inl rfl) rfl) (Nat.le_of_lt (small_sz (by simp only [len_cat, k1, k2]; omega)))) av_str (Nat.le_of_lt (small_sz (by simp only [len_cat, k1, k2]; omega)))) (AV.is (av_ixD (f := D.str) default (av_var (i := 7) rfl (.inl rfl) rfl) IsL.fz (av_mod (AV.is (av_ixDN (f := D.int) (0 : Int) (av_var (i := 3) rfl (.inl rfl) rfl) IsL.fz av_int (n := 3) rfl (by simp)) (show _ = D.int (stC c 3) by rw [row4 c (by decide)])) av_int (by decide)) hio.1 (show _ < ((9 : Nat) : Int) by omega)) (show _ = D.str o by rw [ho])) (Nat.le_of_lt (small_sz (by simp only [len_cat, k1, k2]; omega)))) (avs_c av_int avs_nil))) (hk _ _ (.inr (.inl ⟨rfl, _, rfl, by simp only [len_cat, k1, k2]; omega, curve_bad ha o hom⟩)))
  refine as_set (i := 7) sc__law_case.nd rfl (.inl rfl) (AV.ae (AE.av (ae_call (ok__law_no_rows T) (hr.mono (by decide)) rfl (AVs.aes (avs_c (av_var (i := 4) rfl (.inl rfl) rfl) (avs_c (av_var (i := 5) rfl (.inl rfl) rfl) avs_nil)) ⟨_, _, rfl, by omega, by omega, ⟨rfl, Ext.refl _⟩⟩))) ?_)
  have hrl : (noRowsD a b).length = 41 := rfl
  have hix : 0 ≤ stC c 3 % (41 : Nat) ∧ stC c 3 % (41 : Nat) < (41 : Nat) := ⟨Int.emod_nonneg _ (by decide), Int.emod_lt_of_pos _ (by decide)⟩
  obtain ⟨x, hx⟩ : ∃ x, x = (noRowsD a b).getD (stC c 3 % (41 : Nat)).toNat .non := ⟨_, rfl⟩
  have hxm : x ∈ noRowsD a b := by rw [hx]; exact getD_ll _ (by rw [hrl]; omega)
  refine AS.ro (ρ' := [some (.int c), some (.fz (ns.map D.str)), some (.str st), some (.fz (((List.range 4).map (stC c)).map D.int)), some (.str a), some (.str b), some (.int (stC c 2 % 7)), some (.fz ((noRowsD a b).map id))]) ?_ (by rw [List.map_id]; rfl)
  exact as_retv (AV.is (av_tup (avs_c (av_ixD (f := id) D.non (av_var (i := 7) rfl (.inl rfl) rfl) IsL.fz (av_mod (AV.is (av_ixDN (f := D.int) (0 : Int) (av_var (i := 3) rfl (.inl rfl) rfl) IsL.fz av_int (n := 3) rfl (by simp)) (show _ = D.int (stC c 3) by rw [row4 c (by decide)])) (av_lenD rfl T.m_len (av_var (i := 7) rfl (.inl rfl) rfl) IsL.fz) (by rw [hrl]; decide)) (by rw [hrl]; exact hix.1) (by rw [hrl]; exact hix.2)) (avs_c av_int avs_nil))) (show _ = D.tup [x, .int 0] by rw [hx, hrl]; rfl)) (hk _ _ (rows_ref ha hb x hxm))
def ct__law_share : Ct := fun ds A k _ => ∃ (t : Int) (b : Int), ds = [.int t, .int b] ∧ (0 < b) ∧ (b.natAbs < 2 ^ 9000) ∧ k (sh ((t : Rat) / (b : Rat))) A
theorem ok__law_share (T : Txt K mg) : Fn P w K mg base "_law_share" 1 ct__law_share := by
  refine fn_mk T.d__law_share sc__law_share (fun ds A k e h => ?_) fun f cdv A0 outer s H E hr hp htk ds A kk ee h => ?_
  · obtain ⟨t, b, rfl, _⟩ := h; rfl
  obtain ⟨t, b, rfl, hb0, hbz, hk⟩ := h
  refine as_setv (f := D.int) (i := 2) sc__law_share.nd rfl (.inl rfl) (av_abs rfl T.m_abs (av_var (i := 0) rfl (.inl rfl) rfl)) fun x0 hx0 => ?_
  refine as_setv (f := D.int) (i := 3) sc__law_share.nd rfl (.inl rfl) (av_var (i := 1) rfl (.inl rfl) rfl) fun y0 hy0 => ?_
  have e0 : x0.natAbs = t.natAbs ∧ 0 ≤ x0 := by subst hx0; split <;> omega
  refine as_cons (a1_whileN hp (fun n ρ A' => ∃ (y : Option D) (x : Int) (o : Int), ρ = [some (.int t), some (.int b), some (.int x), some (.int o), y] ∧ A = A' ∧ (0 ≤ x) ∧ (0 ≤ o) ∧ (o ≤ b) ∧ (Nat.gcd x.natAbs o.natAbs = Nat.gcd t.natAbs b.natAbs) ∧ (o.natAbs = n)) ⟨_, _, x0, y0, rfl, rfl, by omega, by omega, by omega, by rw [e0.1, hy0], rfl⟩ fun n ρ A' hI => ?_)
  obtain ⟨y, x, o, rfl, rfl, hx, hy, hyb, hg, hn⟩ := hI
  refine AT.aet (at_gt (av_var (i := 3) rfl (.inl rfl) rfl) av_int) ⟨fun hb => ?_, fun hb => ?_⟩
  · skip
    have hb : o > 0 := of_decide_eq_true hb
    have h0 : 0 < o := by omega
    have h1 := Int.emod_nonneg x (show o ≠ 0 by omega)
    have h2 := Int.emod_lt_of_pos x h0
    refine as_set (i := 4) sc__law_share.nd rfl (.inl rfl) (AV.ae (av_mod (av_var (i := 2) rfl (.inl rfl) rfl) (av_var (i := 3) rfl (.inl rfl) rfl) h0) ?_)
    refine as_set (i := 2) sc__law_share.nd rfl (.inl rfl) (AV.ae (av_var (i := 3) rfl (.inl rfl) rfl) ?_)
    refine as_set (i := 3) sc__law_share.nd rfl (.inl rfl) (AV.ae (av_var (i := 4) rfl (.inl rfl) rfl) ?_)
    exact as_nil ⟨(x % o).natAbs, by omega, _, o, (x % o), rfl, rfl, hy, h1, by omega, (gcd_step hx h0).trans hg, rfl⟩
  have hb : o = 0 := by have := of_decide_eq_false hb; omega
  subst hb
  have hxg : x = (Nat.gcd t.natAbs b.natAbs : Nat) := by rw [← hg, gcd_zero hx]
  subst hxg
  have hgp : 0 < Nat.gcd t.natAbs b.natAbs := Nat.gcd_pos_of_pos_right _ (by omega)
  have hle : Nat.gcd t.natAbs b.natAbs ≤ b.natAbs := Nat.le_of_dvd (by omega) (Nat.gcd_dvd_right _ _)
  have hd : ∀ i : Int, CDivW i (Nat.gcd t.natAbs b.natAbs : Nat) := fun i => divw (b := 9000) (by omega) (by omega) (by decide) (by decide)
  refine as_retv (av_tup (avs_c (av_div (av_var (i := 0) rfl (.inl rfl) rfl) (av_var (i := 2) rfl (.inl rfl) rfl) (hd _)) (avs_c (av_div (av_var (i := 1) rfl (.inl rfl) rfl) (av_var (i := 2) rfl (.inl rfl) rfl) (hd _)) avs_nil))) ?_
  rw [share_eq hb0]
  exact hk
def ct__law_way : Ct := fun ds A k _ => ∃ (c : Int), ds = [.int c] ∧ k (.tup [D.int (wayC c).1, D.int (wayC c).2.1, ip (wayC c).2.2.1, ip (wayC c).2.2.2]) A
theorem ok__law_way (T : Txt K mg) : Fn P w K mg base "_law_way" 2 ct__law_way := by
  refine fn_mk T.d__law_way sc__law_way (fun ds A k e h => ?_) fun f cdv A0 outer s H E hr hp htk ds A kk ee h => ?_
  · obtain ⟨c, rfl, _⟩ := h; rfl
  obtain ⟨c, rfl, hk⟩ := h
  refine as_set (i := 1) sc__law_way.nd rfl (.inl rfl) (AV.ae (AE.av (ae_call (ok__law_stream T) (hr.mono (by decide)) rfl (AVs.aes (avs_c (av_var (i := 0) rfl (.inl rfl) rfl) (avs_c av_int avs_nil)) ⟨_, 6, rfl, by decide, ⟨rfl, Ext.refl _⟩⟩))) ?_)
  have h0 := stC_bd c 0
  have hix : 0 ≤ ((List.range 6).map (stC c)).getD 0 0 % 8 ∧ ((List.range 6).map (stC c)).getD 0 0 % 8 < 8 := ⟨Int.emod_nonneg _ (by decide), Int.emod_lt_of_pos _ (by decide)⟩
  refine as_set (i := 2) sc__law_way.nd rfl (.inl rfl) (AV.ae (av_ixD (f := D.int) (0 : Int) (av_lst (ds := ([_, _, _, _, _, _, _, _] : List Int).map D.int) (avs_c av_int (avs_c av_int (avs_c av_int (avs_c av_int (avs_c av_int (avs_c av_int (avs_c av_int (avs_c (av_add (av_pow av_int av_int (by walk_at "sz")) av_int) avs_nil))))))))) IsL.fz (av_mod (av_ixDN (f := D.int) (0 : Int) (av_var (i := 1) rfl (.inl rfl) rfl) IsL.fz av_int (n := 0) (by first | rfl | decide | (simp)) (by first | rfl | decide | (simp))) av_int (by walk_at "sz")) hix.1 (show _ < ((8 : Nat) : Int) by omega)) ?_)
  refine as_set (i := 3) sc__law_way.nd rfl (.inl rfl) (AV.ae (av_tup (avs_c (av_sub (av_mod (av_ixDN (f := D.int) (0 : Int) (av_var (i := 1) rfl (.inl rfl) rfl) IsL.fz av_int (n := 1) (by first | rfl | decide | (simp)) (by first | rfl | decide | (simp))) av_int (by walk_at "sz")) av_int) (avs_c (av_sub (av_mod (av_ixDN (f := D.int) (0 : Int) (av_var (i := 1) rfl (.inl rfl) rfl) IsL.fz av_int (n := 2) (by first | rfl | decide | (simp)) (by first | rfl | decide | (simp))) av_int (by walk_at "sz")) av_int) avs_nil))) ?_)
  refine as_retv (av_tup (avs_c (av_var (i := 2) rfl (.inl rfl) rfl) (avs_c (av_mod (av_ixDN (f := D.int) (0 : Int) (av_var (i := 1) rfl (.inl rfl) rfl) IsL.fz av_int (n := 3) (by first | rfl | decide | (simp)) (by first | rfl | decide | (simp))) av_int (by walk_at "sz")) (avs_c (av_var (i := 3) rfl (.inl rfl) rfl) (avs_c (av_tup (avs_c (av_sub (av_mod (av_ixDN (f := D.int) (0 : Int) (av_var (i := 1) rfl (.inl rfl) rfl) IsL.fz av_int (n := 4) (by first | rfl | decide | (simp)) (by first | rfl | decide | (simp))) av_int (by walk_at "sz")) av_int) (avs_c (av_sub (av_mod (av_ixDN (f := D.int) (0 : Int) (av_var (i := 1) rfl (.inl rfl) rfl) IsL.fz av_int (n := 5) (by first | rfl | decide | (simp)) (by first | rfl | decide | (simp))) av_int (by walk_at "sz")) av_int) avs_nil))) avs_nil))))) hk
def ct__law_place : Ct := fun ds A k _ => ∃ (c : Int) (W : (Int × Int × Ip × Ip)), ds = [.int c, .tup [D.int W.1, D.int W.2.1, ip W.2.2.1, ip W.2.2.2]] ∧ (WyOk W) ∧ k (ip (placeC W c)) A
theorem ok__law_place (T : Txt K mg) : Fn P w K mg base "_law_place" 2 ct__law_place := by
  refine fn_mk T.d__law_place sc__law_place (fun ds A k e h => ?_) fun f cdv A0 outer s H E hr hp htk ds A kk ee h => ?_
  · obtain ⟨c, W, rfl, _⟩ := h; rfl
  obtain ⟨c, W, rfl, hW, hk⟩ := h
  refine as_cons (a1_asg (AV.ae (av_var (i := 1) rfl (.inl rfl) rfl) ⟨_, (ag_tup rfl (ags_cons (ag_name (i := 2) sc__law_place.nd rfl (.inl rfl)) (ags_cons (ag_name (i := 3) sc__law_place.nd rfl (.inl rfl)) (ags_cons (ag_name (i := 4) sc__law_place.nd rfl (.inl rfl)) (ags_cons (ag_name (i := 5) sc__law_place.nd rfl (.inl rfl)) ags_nil))))), ?_⟩))
  refine AS.ro (ρ' := [some (.int c), some (.tup [D.int W.1, D.int W.2.1, ip W.2.2.1, ip W.2.2.2]), some (.int W.1), some (.int W.2.1), some (ip W.2.2.1), some (ip W.2.2.2), none]) ?_
  refine as_set (i := 6) sc__law_place.nd rfl (.inl rfl) (AV.ae (AE.av (ae_call (ok__law_stream T) (hr.mono (by decide)) rfl (AVs.aes (avs_c (av_var (i := 0) rfl (.inl rfl) rfl) (avs_c av_int avs_nil)) ⟨_, 4, rfl, by decide, ⟨rfl, Ext.refl _⟩⟩))) ?_)
  refine AS.ro (ρ' := [some (.int c), some (.tup [D.int W.1, D.int W.2.1, ip W.2.2.1, ip W.2.2.2]), some (.int W.1), some (.int W.2.1), some (ip W.2.2.1), some (ip W.2.2.2), some (.fz (((List.range 4).map (stC c)).map D.int))]) ?_
  have w1 := hW.s1
  have w2 := hW.s2
  have w3 := hW.t1
  have w4 := hW.t2
  have h0 := stC_bd c 0
  have h1 := stC_bd c 1
  have q0 : 0 ≤ ((List.range 4).map (stC c)).getD 0 0 ∧ ((List.range 4).map (stC c)).getD 0 0 < 2147483647 := h0
  refine as_if (at_eq (av_var (i := 3) rfl (.inl rfl) rfl) av_int) (fun hb0 => ?_) (fun hb0 => as_end ?_)
  · have hb0 := of_decide_eq_true hb0
    rw [placeC, if_pos hb0] at hk
    refine as_retv (av_tup (avs_c (av_sub (av_mod (av_var (i := 0) rfl (.inl rfl) rfl) (av_pow av_int av_int (by walk_at "sz")) (by decide)) (av_mulS av_int (av_pow av_int av_int (by walk_at "sz")) (.inl (by decide)))) (avs_c (av_sub (av_mod (av_mulS (av_var (i := 0) rfl (.inl rfl) rfl) (av_ixDN (f := D.int) (0 : Int) (av_var (i := 6) rfl (.inl rfl) rfl) IsL.fz av_int (n := 0) (by first | rfl | decide | (simp)) (by first | rfl | decide | (simp))) (.inr (by omega))) (av_pow av_int av_int (by walk_at "sz")) (by decide)) (av_mulS av_int (av_pow av_int av_int (by walk_at "sz")) (.inl (by decide)))) avs_nil))) hk
  have hb0 := of_decide_eq_false hb0
  refine as_if (at_eq (av_var (i := 3) rfl (.inl rfl) rfl) av_int) (fun hb1 => ?_) (fun hb1 => as_end ?_)
  · have hb1 := of_decide_eq_true hb1
    rw [placeC, if_neg hb0, if_pos hb1] at hk
    refine as_retv (av_tup (avs_c (av_add (av_ixT (av_var (i := 4) rfl (.inl rfl) rfl) av_int rfl) (av_mulS (av_ixT (av_var (i := 5) rfl (.inl rfl) rfl) av_int rfl) (av_mod (av_ixDN (f := D.int) (0 : Int) (av_var (i := 6) rfl (.inl rfl) rfl) IsL.fz av_int (n := 0) (by first | rfl | decide | (simp)) (by first | rfl | decide | (simp))) av_int (by walk_at "sz")) (.inl (by omega)))) (avs_c (av_add (av_ixT (av_var (i := 4) rfl (.inl rfl) rfl) av_int rfl) (av_mulS (av_ixT (av_var (i := 5) rfl (.inl rfl) rfl) av_int rfl) (av_mod (av_ixDN (f := D.int) (0 : Int) (av_var (i := 6) rfl (.inl rfl) rfl) IsL.fz av_int (n := 0) (by first | rfl | decide | (simp)) (by first | rfl | decide | (simp))) av_int (by walk_at "sz")) (.inl (by omega)))) avs_nil))) hk
  have hb1 := of_decide_eq_false hb1
  refine as_if (at_eq (av_var (i := 3) rfl (.inl rfl) rfl) av_int) (fun hb2 => ?_) (fun hb2 => as_end ?_)
  · have hb2 := of_decide_eq_true hb2
    rw [placeC, if_neg hb0, if_neg hb1, if_pos hb2] at hk
    refine as_retv (av_tup (avs_c (av_add (av_ixT (av_var (i := 4) rfl (.inl rfl) rfl) av_int rfl) (av_mulS (av_mod (av_ixDN (f := D.int) (0 : Int) (av_var (i := 6) rfl (.inl rfl) rfl) IsL.fz av_int (n := 0) (by first | rfl | decide | (simp)) (by first | rfl | decide | (simp))) av_int (by walk_at "sz")) (av_ixT (av_var (i := 5) rfl (.inl rfl) rfl) av_int rfl) (.inr (by omega)))) (avs_c (av_ixT (av_var (i := 4) rfl (.inl rfl) rfl) av_int rfl) avs_nil))) hk
  have hb2 := of_decide_eq_false hb2
  refine as_if (at_eq (av_var (i := 3) rfl (.inl rfl) rfl) av_int) (fun hb3 => ?_) (fun hb3 => as_end ?_)
  · have hb3 := of_decide_eq_true hb3
    rw [placeC, if_neg hb0, if_neg hb1, if_neg hb2, if_pos hb3] at hk
    refine as_retv (av_tup (avs_c (av_add (av_mulS (av_ixT (av_var (i := 4) rfl (.inl rfl) rfl) av_int rfl) (av_pow av_int av_int (by walk_at "sz")) (.inl (by omega))) (av_mod (av_ixDN (f := D.int) (0 : Int) (av_var (i := 6) rfl (.inl rfl) rfl) IsL.fz av_int (n := 0) (by first | rfl | decide | (simp)) (by first | rfl | decide | (simp))) av_int (by walk_at "sz"))) (avs_c (av_add (av_mulS (av_ixT (av_var (i := 4) rfl (.inl rfl) rfl) av_int rfl) (av_pow av_int av_int (by walk_at "sz")) (.inl (by omega))) (av_mod (av_ixDN (f := D.int) (0 : Int) (av_var (i := 6) rfl (.inl rfl) rfl) IsL.fz av_int (n := 1) (by first | rfl | decide | (simp)) (by first | rfl | decide | (simp))) av_int (by walk_at "sz"))) avs_nil))) hk
  have hb3 := of_decide_eq_false hb3
  refine as_if (at_gt (av_var (i := 0) rfl (.inl rfl) rfl) av_int) (fun hb4 => ?_) (fun hb4 => as_end ?_)
  · have hb4 := of_decide_eq_true hb4
    rw [placeC, if_neg hb0, if_neg hb1, if_neg hb2, if_neg hb3, if_pos hb4] at hk
    refine as_retv (av_tup (avs_c (av_sub (av_mod (av_var (i := 0) rfl (.inl rfl) rfl) av_int (by walk_at "sz")) av_int) (avs_c (av_sub (av_mod (av_div (av_var (i := 0) rfl (.inl rfl) rfl) av_int (by walk_at "sz")) av_int (by walk_at "sz")) av_int) avs_nil))) hk
  have hb4 := of_decide_eq_false hb4
  rw [placeC, if_neg hb0, if_neg hb1, if_neg hb2, if_neg hb3, if_neg hb4] at hk
  refine as_retv (av_tup (avs_c (av_sub (av_mod (av_ixDN (f := D.int) (0 : Int) (av_var (i := 6) rfl (.inl rfl) rfl) IsL.fz av_int (n := 0) (by first | rfl | decide | (simp)) (by first | rfl | decide | (simp))) av_int (by walk_at "sz")) av_int) (avs_c (av_sub (av_mod (av_ixDN (f := D.int) (0 : Int) (av_var (i := 6) rfl (.inl rfl) rfl) IsL.fz av_int (n := 1) (by first | rfl | decide | (simp)) (by first | rfl | decide | (simp))) av_int (by walk_at "sz")) av_int) avs_nil))) hk
def ct__law_handed : Ct := fun ds A k _ => ∃ (pls : (List Ip)) (b : Int), ds = [.fz (pls.map ip), .int b] ∧ (pls.length ≤ 100) ∧ (0 < b) ∧ (b.natAbs < 2 ^ 9000) ∧ k (.fz ((pls.map (ptC b)).map pt)) A
theorem ok__law_handed (T : Txt K mg) : Fn P w K mg base "_law_handed" 2 ct__law_handed := by
  refine fn_mk T.d__law_handed sc__law_handed (fun ds A k e h => ?_) fun f cdv A0 outer s H E hr hp htk ds A kk ee h => ?_
  · obtain ⟨pls, b, rfl, _⟩ := h; rfl
  obtain ⟨pls, b, rfl, hl, hb0, hbz, hk⟩ := h
  refine as_retv (av_lcF rfl sc__law_handed.nd (blkOk_by rfl) (own := [("_law_x", 2), ("_law_y", 3)]) (is := [2, 3]) (f := pt) (F := fun i => ptC b (pls.getD i (0, 0))) (by decide) (ai_F ((0, 0) : Ip) (f := ip) (av_var (i := 0) rfl (.inl rfl) rfl) ⟨rfl, rfl, (Nat.le_of_lt (small1000 (by omega))), (fun _ x => trivial), fun i hi => ⟨_, fun s H C cl fp => ⟨(ag_tup rfl (ags_cons (ag_name (i := 2) sc__law_handed.nd rfl (.inl rfl)) (ags_cons (ag_name (i := 3) sc__law_handed.nd rfl (.inl rfl)) ags_nil))), fun A' x => (AV.is (av_tup (avs_c (AE.av (ae_call (ok__law_share T) (hr.mono (by decide)) rfl (AVs.aes (avs_c (av_var (i := 2) rfl (.inl rfl) rfl) (avs_c (av_var (i := 1) rfl (.inr (.inl rfl)) rfl) avs_nil)) ⟨_, _, rfl, hb0, hbz, ⟨rfl, Ext.refl _⟩⟩))) (avs_c (AE.av (ae_call (ok__law_share T) (hr.mono (by decide)) rfl (AVs.aes (avs_c (av_var (i := 3) rfl (.inl rfl) rfl) (avs_c (av_var (i := 1) rfl (.inr (.inl rfl)) rfl) avs_nil)) ⟨_, _, rfl, hb0, hbz, ⟨rfl, Ext.refl _⟩⟩))) avs_nil))) (tup_pt _ _))⟩⟩⟩)) ?_
  rw [map_range_get]
  exact hk
def gi (zs : List Ip) (k : Nat) : Ip := zs.getD k (0, 0)
def ct__law_seats : Ct := fun ds A k _ => ∃ (c : Int) (m : Nat) (W : Wy), ds = [.int c, .int (m : Int), .tup [D.int W.1, D.int W.2.1, ip W.2.2.1, ip W.2.2.2]] ∧ m ≤ 60 ∧ WyOk W ∧ k (.fz ((((List.range m).map (stC c)).map fun o => placeC W (o * o + c)).map ip)) A
theorem ok__law_seats (T : Txt K mg) : Fn P w K mg base "_law_seats" 3 ct__law_seats := by
  refine fn_mk T.d__law_seats sc__law_seats (fun ds A k e h => ?_) fun f cdv A0 outer s H E hr hp htk ds A kk ee h => ?_
  · obtain ⟨c, m, W, rfl, _⟩ := h; rfl
  obtain ⟨c, m, W, rfl, hm, hW, hk⟩ := h
  obtain ⟨ss, hss⟩ : ∃ ss, ss = (List.range m).map (stC c) := ⟨_, rfl⟩
  have hsb : ∀ i, i < ss.length → 0 ≤ ss.getD i 0 ∧ ss.getD i 0 < 2147483647 := fun i hi => by
    rw [hss, List.length_map, List.length_range] at hi
    rw [hss, List.getD_eq_getElem?_getD, List.getElem?_map, List.getElem?_range hi]
    exact stC_bd c i
  have hsl : ss.length ≤ 60 := by rw [hss]; simp; exact hm
  refine as_retv (av_lcF rfl sc__law_seats.nd (blkOk_by rfl) (own := [("_law_one", 3)]) (is := [3]) (f := ip) (F := fun i => placeC W (ss.getD i 0 * ss.getD i 0 + c)) (by decide) (ai_F (0 : Int) (f := D.int) (AV.is (AE.av (ae_call (ok__law_stream T) (hr.mono (by decide)) rfl (AVs.aes (avs_c (av_var (i := 0) rfl (.inr (.inl rfl)) rfl) (avs_c (av_var (i := 1) rfl (.inl rfl) rfl) avs_nil)) ⟨_, m, rfl, by omega, ⟨rfl, Ext.refl _⟩⟩))) (show _ = D.fz (ss.map D.int) by rw [hss])) ⟨rfl, rfl, (Nat.le_of_lt (small1000 (by omega))), (fun _ x => trivial), fun i hi => ⟨_, fun s H C cl fp => ⟨(ag_name (i := 3) sc__law_seats.nd rfl (.inl rfl)), fun A' x => (AE.av (ae_call (ok__law_place T) (hr.mono (by decide)) rfl (AVs.aes (avs_c (av_add (av_mulS (av_var (i := 3) rfl (.inl rfl) rfl) (av_var (i := 3) rfl (.inl rfl) rfl) (.inl (by have := hsb i hi; omega))) (av_var (i := 0) rfl (.inr (.inl rfl)) rfl)) (avs_c (av_var (i := 2) rfl (.inr (.inl rfl)) rfl) avs_nil)) ⟨_, W, rfl, hW, ⟨rfl, Ext.refl _⟩⟩)))⟩⟩⟩)) ?_
  rw [← hss] at hk
  rw [map_range_get ss 0 fun o => placeC W (o * o + c)]
  exact hk
def Bdl (m : Nat) (zs : List Ip) : Prop := ∀ z ∈ zs, z.1.natAbs < 2 ^ m ∧ z.2.natAbs < 2 ^ m
def gl (css : List (List Ip)) (j : Nat) : List Ip := css.getD j []
structure PthI (css : List (List Ip)) : Prop where
  ln : ∀ zs ∈ css, 0 < zs.length ∧ zs.length ≤ 5
  bd : ∀ zs ∈ css, Bdl 101 zs
  jn : ∀ j, j + 1 < css.length → gi (gl css j) ((gl css j).length - 1) = gi (gl css (j + 1)) 0
structure PthOk (b : Int) (css : List (List Ip)) : Prop extends PthI css where
  b0 : 0 < b
  b1 : b ≤ 1000000007
  l0 : 0 < css.length
  l1 : css.length ≤ 12
/-- over one bottom -/
theorem rw_ptC {b : Int} {m : Nat} {zs : List Ip} (h0 : 0 < b) (h1 : b.natAbs < 2 ^ m) (h : Bdl m zs) : Rw m (zs.map (ptC b)) := by
  refine ⟨b, by omega, h1, fun p hp => ?_⟩
  rw [List.mem_map] at hp
  obtain ⟨z, hz, rfl⟩ := hp
  exact ⟨⟨z.1, rfl, (h z hz).1⟩, ⟨z.2, rfl, (h z hz).2⟩⟩
def ct__law_share_text : Ct := fun ds A k _ => ∃ (q : Rat) (m : Nat), ds = [sh q] ∧ (Sz m q) ∧ (m ≤ 1900) ∧ (0 < m) ∧ k (.str (shT q)) A
theorem ok__law_share_text (T : Txt K mg) : Fn P w K mg base "_law_share_text" 1 ct__law_share_text := by
  refine fn_mk T.d__law_share_text sc__law_share_text (fun ds A k e h => ?_) fun f cdv A0 outer s H E hr hp htk ds A kk ee h => ?_
  · obtain ⟨q, m, rfl, _⟩ := h; rfl
  obtain ⟨q, m, rfl, hq, hm, hm0, hk⟩ := h
  have h1 := wl_len hm0 hq.num
  have h2 := wl_len hm0 hq.den
  rw [← tl_tx, ← TL.len_tl] at h1 h2
  have h3 : (tx q.num ++ "/").length = (tx q.num).length + 1 := by rw [TL.len_tl, TL.tl_append, List.length_append, ← TL.len_tl]; rfl
  refine as_if (at_eq (av_ixT (av_var (i := 0) rfl (.inl rfl) rfl) av_int rfl) av_int) (fun hb => ?_) (fun hb => as_end ?_)
  · have hb : q.den = 1 := by have := of_decide_eq_true hb; omega
    rw [shT, if_pos hb] at hk
    refine as_retv (av_strI rfl T.m_str (av_ixT (av_var (i := 0) rfl (.inl rfl) rfl) av_int rfl) (log_lt hq.num (by omega) hm0)) hk
  have hb : ¬ q.den = 1 := by have := of_decide_eq_false hb; omega
  rw [shT, if_neg hb] at hk
  refine as_retv (av_catS (av_catS (av_strI rfl T.m_str (av_ixT (av_var (i := 0) rfl (.inl rfl) rfl) av_int rfl) (log_lt hq.num (by omega) hm0)) av_str (Nat.le_of_lt (small_sz (show (tx q.num).length + 1 < 2000000 by omega)))) (av_strI rfl T.m_str (av_ixT (av_var (i := 0) rfl (.inl rfl) rfl) av_int rfl) (log_lt hq.den (by omega) hm0)) (Nat.le_of_lt (small_sz (by rw [h3]; omega)))) hk
def ct__law_point_text : Ct := fun ds A k _ => ∃ (p : Pt) (m : Nat), ds = [pt p] ∧ (SzP m p) ∧ (m ≤ 1900) ∧ (0 < m) ∧ k (.str (ptT p)) A
theorem ok__law_point_text (T : Txt K mg) : Fn P w K mg base "_law_point_text" 2 ct__law_point_text := by
  refine fn_mk T.d__law_point_text sc__law_point_text (fun ds A k e h => ?_) fun f cdv A0 outer s H E hr hp htk ds A kk ee h => ?_
  · obtain ⟨p, m, rfl, _⟩ := h; rfl
  obtain ⟨p, m, rfl, hq, hm, hm0, hk⟩ := h
  have h1 := shT_len hm0 hq.1
  have h2 := shT_len hm0 hq.2
  have h3 : (shT p.1 ++ ",").length = (shT p.1).length + 1 := by rw [TL.len_tl, TL.tl_append, List.length_append, ← TL.len_tl]; rfl
  refine as_retv (av_catS (av_catS (AE.av (ae_call (ok__law_share_text T) (hr.mono (by decide)) rfl (AVs.aes (avs_c (av_ixT (av_var (i := 0) rfl (.inl rfl) rfl) av_int rfl) avs_nil) ⟨_, m, rfl, hq.1, hm, hm0, ⟨rfl, Ext.refl _⟩⟩))) av_str (Nat.le_of_lt (small_sz (show (shT p.1).length + 1 < 2000000 by omega)))) (AE.av (ae_call (ok__law_share_text T) (hr.mono (by decide)) rfl (AVs.aes (avs_c (av_ixT (av_var (i := 0) rfl (.inl rfl) rfl) av_int rfl) avs_nil) ⟨_, m, rfl, hq.2, hm, hm0, ⟨rfl, Ext.refl _⟩⟩))) (Nat.le_of_lt (small_sz (by rw [h3]; omega)))) hk
def ct__law_curve_text : Ct := fun ds A k _ => ∃ (d_row : D) (row : List Pt) (m : Nat), ds = [d_row] ∧ (IsL A d_row (row.map pt)) ∧ (∀ p ∈ row, SzP m p) ∧ (m ≤ 1900) ∧ (0 < m) ∧ (row.length ≤ 64) ∧ k (.str (cvT row)) A
theorem ok__law_curve_text (T : Txt K mg) : Fn P w K mg base "_law_curve_text" 3 ct__law_curve_text := by
  refine fn_mk T.d__law_curve_text sc__law_curve_text (fun ds A k e h => ?_) fun f cdv A0 outer s H E hr hp htk ds A kk ee h => ?_
  · obtain ⟨d_row, row, m, rfl, _⟩ := h; rfl
  obtain ⟨d_row, row, m, rfl, hL_row, hz, hm, hm0, hl, hk⟩ := h
  have hln : ∀ x ∈ row.map ptT, x.length ≤ 7700 := fun x hx => by
    obtain ⟨p, hp, rfl⟩ := List.mem_map.mp hx
    have := ptT_len hm0 (hz p hp)
    omega
  have hsm := sum_len hln
  rw [List.length_map] at hsm
  refine as_retv (av_join (ys := row.map ptT) av_str (AV.is (av_lcF rfl sc__law_curve_text.nd (blkOk_by rfl) (own := [("_law_place_here", 1)]) (is := [1]) (f := D.str) (F := fun i => ptT (gp row i)) (by decide) (ai_D ((0, 0) : Pt) (f := pt) (av_var (i := 0) rfl (.inl rfl) rfl) (by walk_at "il") ⟨rfl, rfl, (Nat.le_of_lt (small1000 (by omega))), (fun _ x => (by walk_at "ilx")), fun i hi => ⟨_, fun s H C cl fp => ⟨(ag_name (i := 1) sc__law_curve_text.nd rfl (.inl rfl)), fun A' x => (AE.av (ae_call (ok__law_point_text T) (hr.mono (by decide)) rfl (AVs.aes (avs_c (av_var (i := 1) rfl (.inl rfl) rfl) avs_nil) ⟨_, m, rfl, hz _ (gp_mem hi), hm, hm0, ⟨rfl, Ext.refl _⟩⟩)))⟩⟩⟩)) (show _ = D.fz ((row.map ptT).map D.str) by rw [← map_range_get row ((0, 0) : Pt) ptT]; rfl)) IsL.fz (by rw [List.length_map]; have e1 : ((" " : Str)).length = 1 := rfl; rw [e1]; omega)) hk
section
variable {C N M Mo Lo : Addr} {A : AH} {p b : Addr} {bk : List (Str × List Pt)} {k : AK} {e : Value → AH → Prop} {n : Str} {row : List Pt}
theorem B_tell (hD : IsDesk C A p b bk) (hb : bk.length < 64) (hn : ∀ q ∈ bk, q.1.length ≤ 1000) (hN : NameL (TL.tl n)) (hlk : lkB bk n = some row) (hz : ∀ p ∈ row, SzP 200 p) (h0 : 0 < row.length) (h12 : row.length ≤ 12) (h : k (.str (cvT row)) A) : ct_sayR C N M Mo Lo [.ref p, .str (("tell " : Str) ++ n)] A k e := by
  have h3 := name_len hN
  have k1 : (("tell " : Str)).length = 5 := rfl
  refine say_of (by simp only [len_cat, k1]; omega) hD hb hn ?_ (SayK_A (w := "tell") (sh := "n") (n := n) (ps := [.str n]) (row := row) (by decide) (by decide) (knw_n hlk) rfl hlk ?_)
  · rw [x_tell, sp_n (by decide) hN]
    exact RowV_n (by decide) hN
  · exact ⟨_, row, _, rfl, hz, h12, h⟩
theorem B_names (hD : IsDesk C A p b bk) (hb : bk.length < 64) (hn : ∀ q ∈ bk, q.1.length ≤ 1000) (h : k (.str (if bk.isEmpty then ("none" : Str) else Str.join " " (srtN (bk.map (·.1))))) A) : ct_sayR C N M Mo Lo [.ref p, .str "names"] A k e := by
  refine say_of (by decide) hD hb hn (w := "names") (ps := []) ?_ (SayK_names h)
  have : Txt.split ("names" : Str) " " = [("names" : Str)] := split_one (by decide)
  rw [this]
  exact RowV_0 (by decide)
theorem B_curve (hD : IsDesk C A p b bk) (hb : bk.length < 64) (hn : ∀ q ∈ bk, q.1.length ≤ 1000) (hN : NameL (TL.tl n)) (hz : ∀ p ∈ row, SzP 101 p) (h0 : 0 < row.length) (h12 : row.length ≤ 12) (h : k (.str "ok") (aupd A b (dkS (bookA (putB bk n row))))) : ct_sayR C N M Mo Lo [.ref p, .str (("curve " : Str) ++ n ++ (" " : Str) ++ cvT row)] A k e := by
  have h2 := cvT_len (m := 101) (by decide) hz
  have h3 := name_len hN
  have k1 : (("curve " : Str)).length = 6 := rfl
  have k2 : ((" " : Str)).length = 1 := rfl
  have h4 : row.length * (4 * 101 + 8) ≤ 12 * (4 * 101 + 8) := Nat.mul_le_mul_right _ h12
  refine say_of (by simp only [len_cat, k1, k2]; omega) hD hb hn ?_ (SayK_curve (n := n) (row := row) h)
  rw [x_curve n h0, split_ws (by simp)]
  · exact RowV_curve hN h0 h12 fun p hp => ⟨fg_sz (hz p hp).1 (by decide), fg_sz (hz p hp).2 (by decide)⟩
  · intro x hx
    rcases List.mem_cons.mp hx with rfl | hx
    · decide
    rcases List.mem_cons.mp hx with rfl | hx
    · exact name_free hN
    obtain ⟨q, _, rfl⟩ := List.mem_map.mp hx
    exact ptT_free q
end
theorem IsDesk.ext {C : Addr} {A A' : AH} {p b : Addr} {bk : List (Str × List Pt)} (h : IsDesk C A p b bk) (e : Ext A A') : IsDesk C A' p b bk := ⟨let ⟨y, h1⟩ := h.at_; ⟨y, e _ _ h1⟩, e _ _ h.bk⟩
def ct__law_state (C : Addr) : Ct := fun ds A k _ => ∃ (p b : Addr) (bk : List (Str × List Pt)) (ns : List Str) (rows : List (List Pt)), ds = [.ref p, .fz (ns.map D.str)] ∧ IsDesk C A p b bk ∧ bk.length < 64 ∧ (∀ q ∈ bk, q.1.length ≤ 1000) ∧ rows.length = ns.length ∧ ns.length ≤ 60 ∧
  (∀ i, i < ns.length → NameL (TL.tl (ns.getD i default)) ∧ lkB bk (ns.getD i default) = some (rows.getD i []) ∧ (∀ p ∈ rows.getD i [], SzP 200 p) ∧ 0 < (rows.getD i []).length ∧ (rows.getD i []).length ≤ 12) ∧
  k (.fz (((if bk.isEmpty then ("none" : Str) else Str.join " " (srtN (bk.map (·.1)))) :: rows.map cvT).map D.str)) A
theorem ok__law_state (T : Txt K mg) (TW : TxW w T) : Fn P w K mg base "_law_state" 12 (ct__law_state T.C_Desk) := by
  refine fn_mk T.d__law_state sc__law_state (fun ds A k e h => ?_) fun f cdv A0 outer s H E hr hp htk ds A kk ee h => ?_
  · obtain ⟨p, b, bk, ns, rows, rfl, _⟩ := h; rfl
  obtain ⟨p, b, bk, ns, rows, rfl, hD, hbl, hbn, hrl, hnl, hall, hk⟩ := h
  obtain ⟨y, h1⟩ := hD.at_
  have k1 : (("tell " : Str)).length = 5 := rfl
  refine as_retv (AV.is (av_cat (f := D.str) (AV.is (av_lst (avs_c (AE.av (ae_mt (ok_sayR T TW) T.l_Desk.c (hr.mono (by decide)) (av_var (i := 0) rfl (.inr (.inl rfl)) rfl) h1 rfl (AVs.aes (avs_c av_str avs_nil) (B_names hD hbl hbn ⟨rfl, Ext.refl _⟩)))) avs_nil)) (show _ = D.fz (([(if bk.isEmpty then ("none" : Str) else Str.join " " (srtN (bk.map (·.1))))] : List Str).map D.str) from rfl)) (AV.is (av_lcF rfl sc__law_state.nd (blkOk_by rfl) (own := [("_law_name", 2)]) (is := [2]) (f := D.str) (F := fun i => cvT (rows.getD i [])) (by decide) (ai_F (default : Str) (f := D.str) (av_var (i := 1) rfl (.inl rfl) rfl) ⟨rfl, rfl, (Nat.le_of_lt (small1000 (by omega))), (fun _ x => trivial), fun i hi => ⟨_, fun s H C cl fp => ⟨(ag_name (i := 2) sc__law_state.nd rfl (.inl rfl)), fun A' x => (AE.av (ae_mt (ok_sayR T TW) T.l_Desk.c (hr.mono (by decide)) (av_var (i := 0) rfl (.inr (.inl rfl)) rfl) (x _ _ h1) rfl (AVs.aes (avs_c (av_catS av_str (av_var (i := 2) rfl (.inl rfl) rfl) (Nat.le_of_lt (small_sz (by have := name_len (hall i hi).1; rw [k1]; omega)))) avs_nil) (B_tell (hD.ext x) hbl hbn (hall i hi).1 (hall i hi).2.1 (hall i hi).2.2.1 (hall i hi).2.2.2.1 (hall i hi).2.2.2.2 ⟨rfl, Ext.refl _⟩))))⟩⟩⟩)) (show _ = D.fz ((rows.map cvT).map D.str) by rw [← hrl, map_range_get rows [] cvT])) (.fz _) (.fz _) (by rw [List.length_map, hrl]; exact Nat.le_of_lt (small1000 (by simp; omega)))) (show _ = D.fz (((if bk.isEmpty then ("none" : Str) else Str.join " " (srtN (bk.map (·.1)))) :: rows.map cvT).map D.str) from rfl)) hk
theorem desk_new {C : Addr} {A : AH} {x y b : Addr} (hx : A x = none) (hb : aupd A x (.ins C y []) b = none) : ∃ A1, A1 = aupd (aupd (aupd A x (.ins C y [])) b (dkS [])) x (.ins C y [("book", .ref b)]) ∧ IsDesk C A1 x b [] ∧ Ext A A1 ∧ A x = none ∧ A b = none := by
  have hxb : b ≠ x := fun e => by rw [e, aupd_same] at hb; cases hb
  have hb0 : A b = none := by rw [aupd_ne hxb] at hb; exact hb
  refine ⟨_, rfl, ⟨⟨y, aupd_same⟩, by rw [aupd_ne hxb]; exact aupd_same⟩, fun a o e => ?_, hx, hb0⟩
  have ax : a ≠ x := fun z => by rw [z, hx] at e; cases e
  have ab : a ≠ b := fun z => by rw [z, hb0] at e; cases e
  rw [aupd_ne ax, aupd_ne ab, aupd_ne ax]
  exact e
def bkN (n0 n1 n2 : Str) (r : Nat → List Pt) (i : Nat) : List (Str × List Pt) := [(n0, r 0), (n1, r 1), (n2, r 2)].take i
theorem bkN_put {n0 n1 n2 : Str} {r : Nat → List Pt} (h01 : n0 ≠ n1) (h02 : n0 ≠ n2) (h12 : n1 ≠ n2) : ∀ i, i < 3 → putB (bkN n0 n1 n2 r i) (([n0, n1, n2] : List Str).getD i default) (r i) = bkN n0 n1 n2 r (i + 1)
  | 0, _ => by simp [putB, bkN]
  | 1, _ => by simp [putB, bkN, h01]
  | 2, _ => by simp [putB, bkN, h02, h12]
theorem bkN_lk {n0 n1 n2 : Str} {r : Nat → List Pt} (h01 : n0 ≠ n1) (h02 : n0 ≠ n2) (h12 : n1 ≠ n2) : ∀ i, i < 3 → lkB (bkN n0 n1 n2 r 3) (([n0, n1, n2] : List Str).getD i default) = some (r i)
  | 0, _ => by simp [lkB, bkN]
  | 1, _ => by simp [lkB, bkN, h01]
  | 2, _ => by simp [lkB, bkN, h02, h12]
theorem bkN_no {n0 n1 n2 st : Str} {r : Nat → List Pt} (h0 : n0 ≠ st) (h1 : n1 ≠ st) (h2 : n2 ≠ st) : lkB (bkN n0 n1 n2 r 3) st = none := by simp [lkB, bkN, h0, h1, h2]
def seatsV (c : Int) (m : Nat) (W : Wy) : List Ip := ((List.range m).map (stC c)).map fun o => placeC W (o * o + c)
def manyV (c : Int) (k : Nat) : Int := ([2 + c % 5, 12, 1] : List Int).getD k 0
theorem manyV_bd (c : Int) : ∀ k, k < 3 → 1 ≤ manyV c k ∧ manyV c k ≤ 12
  | 0, _ => by show 1 ≤ 2 + c % 5 ∧ 2 + c % 5 ≤ 12; omega
  | 1, _ => by show (1 : Int) ≤ 12 ∧ (12 : Int) ≤ 12; decide
  | 2, _ => by show (1 : Int) ≤ 1 ∧ (1 : Int) ≤ 12; decide
def rowK (ns : List Int) (k : Nat) : List Pt := (seatsV (cellM ns 3 + (k : Int)) (manyV (cellM ns 2) k).toNat (wayC (cellM ns 1))).map (ptC (wayC (cellM ns 1)).1)
theorem rowK_len (ns : List Int) (k : Nat) : (rowK ns k).length = (manyV (cellM ns 2) k).toNat := by unfold rowK seatsV; simp
theorem rowK_rw (ns : List Int) (k : Nat) : Rw 101 (rowK ns k) := by
  have hw := wayC_ok (cellM ns 1)
  refine rw_ptC hw.b0 (by have := hw.b0; have := hw.b1; omega) fun z hz => ?_
  obtain ⟨o, _, rfl⟩ := List.mem_map.mp hz
  exact placeC_bd hw _
theorem ok_name {x : Str} (h : NameL (TL.tl x)) : ∀ c ∈ TL.tl x, c < 1114112 := fun c hc => by have := h.2.2 c hc; omega
theorem strOk_tl {x : Str} (h : ∀ c ∈ TL.tl x, c < 1114112) : PyData.strOk x = true := by
  unfold PyData.strOk
  rw [← Array.all_toList]
  exact List.all_eq_true.mpr fun c hc => decide_eq_true (h c hc)
theorem strOk_cv {row : List Pt} (h0 : 0 < row.length) (h1 : row.length ≤ 12) (h : ∀ p ∈ row, FgP p) : PyData.strOk (cvT row) = true := strOk_tl fun c hc => by
  have := rdC_sign (rdC_cv h0 h1 h) c hc
  rcases this with e | e | e
  · omega
  · omega
  · have e : c = 45 ∨ c = 47 ∨ (48 ≤ c ∧ c ≤ 57) := e
    omega
theorem mem_join : ∀ {xs : List (List Nat)} {c : Nat}, c ∈ TL.joinL [32] xs → c = 32 ∨ ∃ x ∈ xs, c ∈ x
  | [], _, h => nomatch h
  | [x], _, h => .inr ⟨x, by simp, by simpa [TL.joinL] using h⟩
  | x :: y :: r, c, h => by
    have h : c ∈ x ++ ([32] ++ TL.joinL [32] (y :: r)) := h
    rcases List.mem_append.mp h with h | h
    · exact .inr ⟨x, by simp, h⟩
    rcases List.mem_append.mp h with h | h
    · exact .inl (List.mem_singleton.mp h)
    · rcases mem_join h with h | ⟨z, hz, h⟩
      · exact .inl h
      · exact .inr ⟨z, List.mem_cons_of_mem _ hz, h⟩
theorem strOk_names {ns : List Str} (h : ∀ n ∈ ns, NameL (TL.tl n)) : PyData.strOk (Str.join " " (srtN ns)) = true := strOk_tl fun c hc => by
  rw [TL.tl_join] at hc
  rcases mem_join hc with e | ⟨x, hx, e⟩
  · omega
  · obtain ⟨n, hn, rfl⟩ := List.mem_map.mp hx
    exact ok_name (h n (srtN_mem hn)) c e
theorem ok_law (T : Txt K mg) (TW : TxW w T) {f : Addr} {fd : FuncData} (F : Fun K "law" "law" s_law f fd) : FnOk P w K mg base (L2N.CX P w) 13 f fd ["_law_script"] (spOf K ctLaw) := by
  refine fnok_mk F sc_law (fun ds A k e h => ?_) fun cdv A0 outer s H E hr hp htk ds A kk ee h => ?_
  · obtain ⟨ns, rfl, _⟩ := h; rfl
  obtain ⟨ns, rfl, hl63, hk⟩ := h
  refine as_set (i := 1) sc_law.nd rfl (.inl rfl) (ae_call (ok__law_names T) (hr.mono (by decide)) rfl (AVs.aes (avs_c (AE.av (ae_call (ok__law_cell_at T) (hr.mono (by decide)) rfl (AVs.aes (avs_c (av_var (i := 0) rfl (.inl rfl) rfl) (avs_c av_int avs_nil)) ⟨_, _, rfl, by first | decide | omega, ⟨rfl, Ext.refl _⟩⟩))) (avs_c av_int avs_nil)) ⟨_, 4, rfl, by decide, fun q0 hq0 => ?_⟩))
  refine AS.ro (ρ' := [some (.cl (ns.map D.int)), some (.ref q0), none, none, none, none, none, none, none, none, none]) ?_
  have hnd := namesC_nodup (c := cellM ns 0) (m := 4) (by decide)
  have hnN := namesC_name (c := cellM ns 0) (m := 4) (by decide)
  obtain ⟨n0, hn0⟩ : ∃ x, x = strL (nmOf (cellM ns 0) 4 0) := ⟨_, rfl⟩
  obtain ⟨n1, hn1⟩ : ∃ x, x = strL (nmOf (cellM ns 0) 4 1) := ⟨_, rfl⟩
  obtain ⟨n2, hn2⟩ : ∃ x, x = strL (nmOf (cellM ns 0) 4 2) := ⟨_, rfl⟩
  obtain ⟨st, hst⟩ : ∃ x, x = strL (nmOf (cellM ns 0) 4 3) := ⟨_, rfl⟩
  have hne : namesC (cellM ns 0) 4 = [n0, n1, n2] ++ [st] := by rw [hn0, hn1, hn2, hst]; rfl
  rw [hne] at hnd hnN
  have e9 : (namesC (cellM ns 0) 4).map D.str = ([n0, n1, n2] : List Str).map D.str ++ [D.str st] := by rw [hne]; rfl
  rw [e9]
  clear e9 hne hn0 hn1 hn2 hst
  have hN : ∀ x ∈ ([n0, n1, n2] : List Str), NameL (TL.tl x) := fun x hx => hnN x (List.mem_append_left _ hx)
  have hNs : NameL (TL.tl st) := hnN st (by simp)
  simp only [List.cons_append, List.nil_append, List.nodup_cons, List.mem_cons, List.not_mem_nil, or_false, not_or] at hnd
  obtain ⟨⟨h01, h02, h0s⟩, ⟨h12, h1s⟩, h2s, _⟩ := hnd
  refine as_set (i := 2) sc_law.nd rfl (.inl rfl) (ae_pop (AV.ae (av_var (i := 1) rfl (.inl rfl) rfl) ⟨q0, _, D.str st, rfl, aupd_same, ?_⟩))
  refine AS.ro (ρ' := [some (.cl (ns.map D.int)), some (.ref q0), some (.str st), none, none, none, none, none, none, none, none]) ?_
  rw [aupd_aupd]
  refine as_fz 1 rfl hq0 ?_
  refine AS.ro (ρ' := [some (.cl (ns.map D.int)), some (.fz (([n0, n1, n2] : List Str).map D.str)), some (.str st), none, none, none, none, none, none, none, none]) ?_
  refine as_set (i := 3) sc_law.nd rfl (.inl rfl) (ae_mk0 (ok_Desk___init__ T) T.l_Desk.g (hr.mono (by decide)) rfl fun p yy hxx => ⟨p, yy, rfl, aupd_same, fun b hb => ⟨rfl, ?_⟩⟩)
  obtain ⟨A1, eA, hD1, hX1, _, _⟩ := desk_new hxx hb
  rw [← eA]
  clear eA hb
  refine AS.ro (ρ' := [some (.cl (ns.map D.int)), some (.fz (([n0, n1, n2] : List Str).map D.str)), some (.str st), some (.ref p), none, none, none, none, none, none, none]) ?_
  obtain ⟨W, hWd⟩ : ∃ W, W = wayC (cellM ns 1) := ⟨_, rfl⟩
  have hW : WyOk W := by rw [hWd]; exact wayC_ok _
  have hWb : W.1.natAbs < 2 ^ 9000 := bt_le (show W.1.natAbs < 2 ^ 30 by have := hW.b0; have := hW.b1; omega) (by decide)
  refine as_set (i := 4) sc_law.nd rfl (.inl rfl) (AV.ae (AE.av (d := .tup [D.int W.1, D.int W.2.1, ip W.2.2.1, ip W.2.2.2]) (ae_call (ok__law_way T) (hr.mono (by decide)) rfl (AVs.aes (avs_c (AE.av (ae_call (ok__law_cell_at T) (hr.mono (by decide)) rfl (AVs.aes (avs_c (av_var (i := 0) rfl (.inl rfl) rfl) (avs_c av_int avs_nil)) ⟨_, _, rfl, by first | decide | omega, ⟨rfl, Ext.refl _⟩⟩))) avs_nil) ⟨_, rfl, ⟨by rw [hWd], Ext.refl _⟩⟩))) ?_)
  refine AS.ro (ρ' := [some (.cl (ns.map D.int)), some (.fz (([n0, n1, n2] : List Str).map D.str)), some (.str st), some (.ref p), some (.tup [D.int W.1, D.int W.2.1, ip W.2.2.1, ip W.2.2.2]), none, none, none, none, none, none]) ?_
  obtain ⟨jn, hjn⟩ : ∃ jn, jn = Str.join " " (srtN [n0, n1, n2]) := ⟨_, rfl⟩
  have k2 : ((" " : Str)).length = 1 := rfl
  have hsl := sum_len (xs := srtN [n0, n1, n2]) (b := 12) fun x hx => name_len (hN x (srtN_mem hx))
  have hsn := srtN_len [n0, n1, n2]
  have hsn : (srtN [n0, n1, n2]).length = 3 := hsn
  refine as_set (i := 5) sc_law.nd rfl (.inl rfl) (AL.ae (al_lst (ds := ([jn] : List Str).map D.str) (avs_c (AV.is (av_join (ys := srtN [n0, n1, n2]) av_str (av_sortedL rfl T.m_sorted (av_var (i := 1) rfl (.inl rfl) rfl) IsL.fz (show 3 < 64 by decide)) IsL.fz (by rw [k2]; omega)) (show _ = D.str jn by rw [hjn])) avs_nil)) fun q hq => ?_)
  refine AS.ro (ρ' := [some (.cl (ns.map D.int)), some (.fz (([n0, n1, n2] : List Str).map D.str)), some (.str st), some (.ref p), some (.tup [D.int W.1, D.int W.2.1, ip W.2.2.1, ip W.2.2.2]), some (.ref q), none, none, none, none, none]) ?_
  obtain ⟨y1, hy1⟩ := hD1.at_
  have pq : p ≠ q := fun e => by rw [e, hq] at hy1; cases hy1
  have bq : b ≠ q := fun e => by have := hD1.bk; rw [e, hq] at this; cases this
  have hDi : ∀ (bk bk' : List (Str × List Pt)) (o : AO), IsDesk T.C_Desk (aupd (aupd A1 b (dkS (bookA bk))) q o) p b bk := fun bk _ o => ⟨⟨y1, by rw [aupd_ne pq, aupd_ne hD1.ne]; exact hy1⟩, by rw [aupd_ne bq]; exact aupd_same⟩
  have e0 : aupd A1 b (dkS (bookA [])) = A1 := aupd_self hD1.bk
  have hq2 : ∀ bk, (aupd A1 b (dkS (bookA bk))) q = none := fun bk => by rw [aupd_ne (fun e => bq e.symm)]; exact hq
  have k1 : (("curve " : Str)).length = 6 := rfl
  have hrz : ∀ k, ∀ x ∈ rowK ns k, SzP 101 x := fun k => (rowK_rw ns k).sz
  have hrl : ∀ k, k < 3 → 0 < (rowK ns k).length ∧ (rowK ns k).length ≤ 12 := fun k hk => by
    have := manyV_bd (cellM ns 2) k hk
    rw [rowK_len]
    omega
  have hbkn : ∀ i, ∀ x ∈ bkN n0 n1 n2 (rowK ns) i, x.1.length ≤ 1000 := fun i x hx => by
    have hx := List.mem_of_mem_take hx
    simp only [List.mem_cons, List.not_mem_nil, or_false] at hx
    rcases hx with rfl | rfl | rfl
    · have := name_len (hN n0 (by simp)); show n0.length ≤ 1000; omega
    · have := name_len (hN n1 (by simp)); show n1.length ≤ 1000; omega
    · have := name_len (hN n2 (by simp)); show n2.length ≤ 1000; omega
  have hbkl : ∀ i, (bkN n0 n1 n2 (rowK ns) i).length < 64 := fun i => by
    unfold bkN
    rw [List.length_take]
    show min i 3 < 64
    omega
  refine as_cons (a1_for hp rfl (ai_rng rfl T.m_range av_int (by decide) (by decide) ⟨fun i ρ A' => ∃ (y6 y7 y8 : Option D), ρ = [some (.cl (ns.map D.int)), some (.fz (([n0, n1, n2] : List Str).map D.str)), some (.str st), some (.ref p), some (.tup [D.int W.1, D.int W.2.1, ip W.2.2.1, ip W.2.2.2]), some (.ref q), y6, y7, y8, none, none] ∧ A' = aupd (aupd A1 b (dkS (bookA (bkN n0 n1 n2 (rowK ns) i)))) q (.lst ((jn :: (List.range i).map fun k => cvT (rowK ns k)).map D.str)), ⟨_, _, _, rfl, by rw [show bkN n0 n1 n2 (rowK ns) 0 = [] from rfl, e0]; rfl⟩, fun i ρ A' hle hI => trivial, fun i ρ A' hi hI => ⟨_, _, (ag_name (i := 6) sc_law.nd rfl (.inl rfl)), ?_⟩, fun ρ A' hI => ?_⟩))
  · skip
    obtain ⟨y6, y7, y8, rfl, rfl⟩ := hI
    have hi3 : i < 3 := hi
    have hmv := manyV_bd (cellM ns 2) i hi3
    refine AS.ro (ρ' := [some (.cl (ns.map D.int)), some (.fz (([n0, n1, n2] : List Str).map D.str)), some (.str st), some (.ref p), some (.tup [D.int W.1, D.int W.2.1, ip W.2.2.1, ip W.2.2.2]), some (.ref q), some (.int (i : Int)), y7, y8, none, none]) ?_
    refine as_set (i := 7) sc_law.nd rfl (.inl rfl) (AV.ae (AV.is (av_ixDN (f := D.int) (0 : Int) (av_lst (ds := ([2 + cellM ns 2 % 5, 12, 1] : List Int).map D.int) (avs_c (av_add av_int (av_mod (AE.av (ae_call (ok__law_cell_at T) (hr.mono (by decide)) rfl (AVs.aes (avs_c (av_var (i := 0) rfl (.inl rfl) rfl) (avs_c av_int avs_nil)) ⟨_, _, rfl, by first | decide | omega, ⟨rfl, Ext.refl _⟩⟩))) av_int (by decide))) (avs_c av_int (avs_c av_int avs_nil)))) IsL.fz (av_var (i := 6) rfl (.inl rfl) rfl) (n := i) rfl hi3) (show _ = D.int (manyV (cellM ns 2) i) from rfl)) ?_)
    refine AS.ro (ρ' := [some (.cl (ns.map D.int)), some (.fz (([n0, n1, n2] : List Str).map D.str)), some (.str st), some (.ref p), some (.tup [D.int W.1, D.int W.2.1, ip W.2.2.1, ip W.2.2.2]), some (.ref q), some (.int (i : Int)), some (.int (manyV (cellM ns 2) i)), y8, none, none]) ?_
    refine as_set (i := 8) sc_law.nd rfl (.inl rfl) (AV.ae (AE.av (ae_call (ok__law_curve_text T) (hr.mono (by decide)) rfl (AVs.aes (avs_c (AE.av (d := .fz ((rowK ns i).map pt)) (ae_call (ok__law_handed T) (hr.mono (by decide)) rfl (AVs.aes (avs_c (AE.av (d := .fz ((seatsV (cellM ns 3 + (i : Int)) (manyV (cellM ns 2) i).toNat W).map ip)) (ae_call (ok__law_seats T) (hr.mono (by decide)) rfl (AVs.aes (avs_c (av_add (AE.av (ae_call (ok__law_cell_at T) (hr.mono (by decide)) rfl (AVs.aes (avs_c (av_var (i := 0) rfl (.inl rfl) rfl) (avs_c av_int avs_nil)) ⟨_, _, rfl, by first | decide | omega, ⟨rfl, Ext.refl _⟩⟩))) (av_var (i := 6) rfl (.inl rfl) rfl)) (avs_c (av_var (i := 7) rfl (.inl rfl) rfl) (avs_c (av_var (i := 4) rfl (.inl rfl) rfl) avs_nil))) ⟨_, (manyV (cellM ns 2) i).toNat, W, (by rw [Int.toNat_of_nonneg (by omega)]), by omega, hW, ⟨rfl, Ext.refl _⟩⟩))) (avs_c (av_ixT (av_var (i := 4) rfl (.inl rfl) rfl) av_int rfl) avs_nil)) ⟨_, _, rfl, by unfold seatsV; simp; omega, hW.b0, hWb, ⟨by rw [hWd]; rfl, Ext.refl _⟩⟩))) avs_nil) ⟨_, rowK ns i, 101, rfl, IsL.fz, hrz i, by decide, by decide, by have := hrl i hi3; omega, ⟨rfl, Ext.refl _⟩⟩))) ?_)
    refine AS.ro (ρ' := [some (.cl (ns.map D.int)), some (.fz (([n0, n1, n2] : List Str).map D.str)), some (.str st), some (.ref p), some (.tup [D.int W.1, D.int W.2.1, ip W.2.2.1, ip W.2.2.2]), some (.ref q), some (.int (i : Int)), some (.int (manyV (cellM ns 2) i)), some (.str (cvT (rowK ns i))), none, none]) ?_
    have hcl := cvT_len (m := 101) (by decide) (hrz i)
    have hcl2 : (rowK ns i).length * (4 * 101 + 8) ≤ 12 * (4 * 101 + 8) := Nat.mul_le_mul_right _ (hrl i hi3).2
    have hNi : NameL (TL.tl (([n0, n1, n2] : List Str).getD i default)) := hN _ (getD_ll _ hi3)
    have hNl := name_len hNi
    have hDn := hDi (bkN n0 n1 n2 (rowK ns) i) [] (.lst ((jn :: (List.range i).map fun k => cvT (rowK ns k)).map D.str))
    obtain ⟨yn, hyn⟩ := hDn.at_
    refine as_cons (a1_expr (ae_mt (ok_sayR T TW) T.l_Desk.c (hr.mono (by decide)) (av_var (i := 3) rfl (.inl rfl) rfl) hyn rfl (AVs.aes (avs_c (av_catS (av_catS (av_catS av_str (av_ixDN (f := D.str) default (av_var (i := 1) rfl (.inl rfl) rfl) IsL.fz (av_var (i := 6) rfl (.inl rfl) rfl) (n := i) rfl hi3) (Nat.le_of_lt (small_sz (by simp only [len_cat, k1, k2]; omega)))) av_str (Nat.le_of_lt (small_sz (by simp only [len_cat, k1, k2]; omega)))) (av_var (i := 8) rfl (.inl rfl) rfl) (Nat.le_of_lt (small_sz (by simp only [len_cat, k1, k2]; omega)))) avs_nil) (B_curve hDn (hbkl i) (hbkn i) hNi (hrz i) (hrl i hi3).1 (hrl i hi3).2 ?_))))
    rw [bkN_put h01 h02 h12 i hi3]
    have e1 : ∀ o u, aupd (aupd (aupd A1 b o) q u) b (dkS (bookA (bkN n0 n1 n2 (rowK ns) (i + 1)))) = aupd (aupd A1 b (dkS (bookA (bkN n0 n1 n2 (rowK ns) (i + 1))))) q u := fun o u => by rw [aupd_comm (p := q) (q := b) (fun e => bq e.symm), aupd_aupd]
    rw [e1]
    refine as_cons (a1_expr (ae_append (AV.ae (av_var (i := 5) rfl (.inl rfl) rfl) ⟨_, rfl, ⟨_, aupd_same⟩, AV.ae (av_var (i := 8) rfl (.inl rfl) rfl) ⟨_, aupd_same, (by rw [List.length_map, List.length_cons, List.length_map, List.length_range]; exact small1000 (by omega)), ?_⟩⟩)))
    exact as_nil ⟨_, _, _, rfl, by rw [aupd_aupd, List.range_succ, List.map_append, ← List.cons_append, List.map_append]; rfl⟩
  obtain ⟨y6, y7, y8, rfl, rfl⟩ := hI
  have e3 : (3 : Int).toNat = 3 := rfl
  rw [e3]
  refine as_fz 5 rfl (hq2 _) ?_
  refine AS.ro (ρ' := [some (.cl (ns.map D.int)), some (.fz (([n0, n1, n2] : List Str).map D.str)), some (.str st), some (.ref p), some (.tup [D.int W.1, D.int W.2.1, ip W.2.2.1, ip W.2.2.2]), some (.fz ((jn :: (List.range 3).map fun k => cvT (rowK ns k)).map D.str)), y6, y7, y8, none, none]) ?_
  obtain ⟨bk, hbk⟩ : ∃ bk, bk = bkN n0 n1 n2 (rowK ns) 3 := ⟨_, rfl⟩
  have hD2 : IsDesk T.C_Desk (aupd A1 b (dkS (bookA bk))) p b bk := ⟨⟨y1, by rw [aupd_ne hD1.ne]; exact hy1⟩, aupd_same⟩
  have hbl2 : bk.length < 64 := by rw [hbk]; exact hbkl 3
  have hbn2 : ∀ x ∈ bk, x.1.length ≤ 1000 := by rw [hbk]; exact hbkn 3
  rw [← hbk]
  obtain ⟨A2, hA2⟩ : ∃ A2, A2 = aupd A1 b (dkS (bookA bk)) := ⟨_, rfl⟩
  rw [← hA2] at hD2 ⊢
  have hup : ∀ k, ∀ x ∈ rowK ns k, SzP 200 x := fun k x hx => ⟨(hrz k x hx).1.up (by decide), (hrz k x hx).2.up (by decide)⟩
  have hC : CaseOk bk [n0, n1, n2] st := by
    subst hbk
    exact ⟨rfl, hN, hNs, bkN_no h0s h1s h2s, ⟨rowK ns 1, bkN_lk h01 h02 h12 1 (by decide), by rw [rowK_len]; rfl, hup 1⟩, ⟨rowK ns 2, bkN_lk h01 h02 h12 2 (by decide), by rw [rowK_len]; rfl, (rowK_rw ns 2).up (by decide)⟩⟩
  have hrows : ∀ i, i < ([n0, n1, n2] : List Str).length → NameL (TL.tl (([n0, n1, n2] : List Str).getD i default)) ∧ lkB bk (([n0, n1, n2] : List Str).getD i default) = some (([rowK ns 0, rowK ns 1, rowK ns 2] : List (List Pt)).getD i []) ∧ (∀ p ∈ ([rowK ns 0, rowK ns 1, rowK ns 2] : List (List Pt)).getD i [], SzP 200 p) ∧ 0 < (([rowK ns 0, rowK ns 1, rowK ns 2] : List (List Pt)).getD i []).length ∧ (([rowK ns 0, rowK ns 1, rowK ns 2] : List (List Pt)).getD i []).length ≤ 12 := by
    intro i hi
    have hi : i < 3 := hi
    have e : ([rowK ns 0, rowK ns 1, rowK ns 2] : List (List Pt)).getD i [] = rowK ns i := match i, hi with
      | 0, _ => rfl
      | 1, _ => rfl
      | 2, _ => rfl
    rw [e]
    exact ⟨hN _ (getD_ll _ hi), by rw [hbk]; exact bkN_lk h01 h02 h12 i hi, hup i, (hrl i hi).1, (hrl i hi).2⟩
  have hfst : bk.map (·.1) = [n0, n1, n2] := by rw [hbk]; rfl
  have hemp : bk.isEmpty = false := by rw [hbk]; rfl
  have hdue : (((if bk.isEmpty then ("none" : Str) else Str.join " " (srtN (bk.map (·.1)))) :: ([rowK ns 0, rowK ns 1, rowK ns 2] : List (List Pt)).map cvT)) = (jn :: (List.range 3).map fun k => cvT (rowK ns k)) := by rw [hemp, hfst, hjn]; rfl
  have hokd : ∀ x ∈ (jn :: (List.range 3).map fun k => cvT (rowK ns k)), PyData.strOk x = true := fun x hx => by
    rcases List.mem_cons.mp hx with rfl | hx
    · rw [hjn]; exact strOk_names hN
    · obtain ⟨k, hk9, rfl⟩ := List.mem_map.mp hx
      have hk3 := List.mem_range.mp hk9
      exact strOk_cv (hrl k hk3).1 (hrl k hk3).2 fun p hp => ⟨fg_sz (hrz k p hp).1 (by decide), fg_sz (hrz k p hp).2 (by decide)⟩
  have hm12 : 0 ≤ cellM ns 4 % 12 ∧ cellM ns 4 % 12 < 12 := ⟨Int.emod_nonneg _ (by decide), Int.emod_lt_of_pos _ (by decide)⟩
  refine as_cons (a1_for hp rfl (ai_rng rfl T.m_range (av_add av_int (av_mod (AE.av (ae_call (ok__law_cell_at T) (hr.mono (by decide)) rfl (AVs.aes (avs_c (av_var (i := 0) rfl (.inl rfl) rfl) (avs_c av_int avs_nil)) ⟨_, _, rfl, by first | decide | omega, ⟨rfl, Ext.refl _⟩⟩))) av_int (by decide))) (by omega) (by omega) ⟨fun i ρ A' => ∃ (y6 y7 y8 y9 y10 : Option D), ρ = [some (.cl (ns.map D.int)), some (.fz (([n0, n1, n2] : List Str).map D.str)), some (.str st), some (.ref p), some (.tup [D.int W.1, D.int W.2.1, ip W.2.2.1, ip W.2.2.2]), some (.fz ((jn :: (List.range 3).map fun k => cvT (rowK ns k)).map D.str)), y6, y7, y8, y9, y10] ∧ A2 = A', ⟨_, _, _, _, _, rfl, rfl⟩, fun i ρ A' hle hI => trivial, fun i ρ A' hi hI => ⟨_, _, (ag_name (i := 6) sc_law.nd rfl (.inl rfl)), ?_⟩, fun ρ A' hI => ?_⟩))
  · skip
    obtain ⟨y6, y7, y8, y9, y10, rfl, rfl⟩ := hI
    refine AS.ro (ρ' := [some (.cl (ns.map D.int)), some (.fz (([n0, n1, n2] : List Str).map D.str)), some (.str st), some (.ref p), some (.tup [D.int W.1, D.int W.2.1, ip W.2.2.1, ip W.2.2.2]), some (.fz ((jn :: (List.range 3).map fun k => cvT (rowK ns k)).map D.str)), some (.int (i : Int)), y7, y8, y9, y10]) ?_
    refine as_cons (a1_asg (is := [9, 10]) (ae_call (ok__law_case T) (hr.mono (by decide)) rfl (AVs.aes (avs_c (av_add (AE.av (ae_call (ok__law_cell_at T) (hr.mono (by decide)) rfl (AVs.aes (avs_c (av_var (i := 0) rfl (.inl rfl) rfl) (avs_c (av_add av_int (av_var (i := 6) rfl (.inl rfl) rfl)) avs_nil)) ⟨_, _, rfl, by first | decide | omega, ⟨rfl, Ext.refl _⟩⟩))) (av_mulS av_int (av_var (i := 6) rfl (.inl rfl) rfl) (.inl (by decide)))) (avs_c (av_var (i := 1) rfl (.inl rfl) rfl) (avs_c (av_var (i := 2) rfl (.inl rfl) rfl) avs_nil))) ⟨_, [n0, n1, n2], st, bk, rfl, hC, fun d kind hR => ⟨_, (ag_tup rfl (ags_cons (ag_name (i := 9) sc_law.nd rfl (.inl rfl)) (ags_cons (ag_name (i := 10) sc_law.nd rfl (.inl rfl)) ags_nil))), ?_⟩⟩)))
    refine AS.ro (ρ' := [some (.cl (ns.map D.int)), some (.fz (([n0, n1, n2] : List Str).map D.str)), some (.str st), some (.ref p), some (.tup [D.int W.1, D.int W.2.1, ip W.2.2.1, ip W.2.2.2]), some (.fz ((jn :: (List.range 3).map fun k => cvT (rowK ns k)).map D.str)), some (.int (i : Int)), y7, y8, some d, some (.int kind)]) ?_
    refine as_if (bb := false) (AT.is (AW.at (aw_or (at_not (at_val (AE.av (ae_call (ok__law_refused T TW) (hr.mono (by decide)) rfl (AVs.aes (avs_c (av_var (i := 3) rfl (.inl rfl) rfl) (avs_c (av_var (i := 9) rfl (.inl rfl) rfl) (avs_c (av_var (i := 10) rfl (.inl rfl) rfl) avs_nil))) ⟨p, b, bk, d, kind, rfl, hD2, hbl2, hbn2, hR, ⟨rfl, Ext.refl _⟩⟩))))) fun _ => aw_or1 (AET.at' (b := false) (aet_neLS hr (AV.ae (AE.av (ae_call (ok__law_state T TW) (hr.mono (by decide)) rfl (AVs.aes (avs_c (av_var (i := 3) rfl (.inl rfl) rfl) (avs_c (av_var (i := 1) rfl (.inl rfl) rfl) avs_nil)) ⟨p, b, bk, [n0, n1, n2], [rowK ns 0, rowK ns 1, rowK ns 2], rfl, hD2, hbl2, hbn2, rfl, (show 3 ≤ 60 by decide), hrows, ⟨by rw [hdue], Ext.refl _⟩⟩))) (AV.ae (av_var (i := 5) rfl (.inl rfl) rfl) ⟨(jn :: (List.range 3).map fun k => cvT (rowK ns k)), (jn :: (List.range 3).map fun k => cvT (rowK ns k)), IsL.fz, IsL.fz, hokd, hokd, by simp, Ext.refl _⟩)))))) (by rfl)) (fun h => nomatch h) (fun _ => as_end ?_)
    exact as_nil ⟨_, _, _, _, _, rfl, rfl⟩
  obtain ⟨y6, y7, y8, y9, y10, rfl, rfl⟩ := hI
  exact as_retv av_bl (hk _)
end
end Lw

namespace Lw
open PySem PySem.Spec PyProof.Rows L2 C7
theorem fin {l : PySem.W.OpenLaw} {w : World} {K : Frag} {h : Heap} {mg : Str → Option Value} (X : K.In h) (G : h.Ns mainGlobals mg) {C_Sieve C_Desk C_SeatError C_NoShare C_NoLower C_NoMap C_NoJoin C_NoPlace C_TooMany C_NoText C_NoName c_NOUGHT_curves c_NOUGHT_partings c_HALF c_NOUGHT_raising c_SHAPES a_NOUGHT_raising b_NOUGHT_raising : Addr} {t_MOST_PAIRS t_MOST_SEATS t_FIGURES t_MOST_FIGURES t_MOST_PARTS t_LETTERS t_MOST_LETTERS t_MOST_SMOOTH u_NOUGHT_curves v_NOUGHT_curves u_NOUGHT_partings v_NOUGHT_partings u_HALF v_HALF u_NOUGHT_raising1 v_NOUGHT_raising1 u_NOUGHT_raising2 v_NOUGHT_raising2 : Tok} {o_NOUGHT_curves o_NOUGHT_partings o_HALF o_NOUGHT_raising o_NOUGHT_raising1 o_NOUGHT_raising2 : Obj} {w_NOUGHT_curves w_NOUGHT_partings w_HALF w_NOUGHT_raising w_NOUGHT_raising1 w_NOUGHT_raising2 : Nat} {es_SHAPES : Array DictEntry} {n_SHAPES : Nat}
    (d_common_part : DefF K mg "common_part" s_common_part ["one", "other"])
    (d_share : DefF K mg "share" s_share ["top", "bottom"])
    (d_plus : DefF K mg "plus" s_plus ["one", "other"])
    (d_minus : DefF K mg "minus" s_minus ["one", "other"])
    (d_times : DefF K mg "times" s_times ["one", "other"])
    (d_under : DefF K mg "under" s_under ["one", "other"])
    (d_between : DefF K mg "between" s_between ["one", "other", "t"])
    (d_on_way : DefF K mg "on_way" s_on_way ["one", "other", "t"])
    (d_step : DefF K mg "step" s_step ["one", "other"])
    (d_moved : DefF K mg "moved" s_moved ["place", "by", "many"])
    (d_next_row : DefF K mg "next_row" s_next_row ["row", "t"])
    (d_rows : DefF K mg "rows" s_rows ["curve", "t"])
    (d_point : DefF K mg "point" s_point ["curve", "t"])
    (d_ways : DefF K mg "ways" s_ways ["n"])
    (d_sum_of : DefF K mg "sum_of" s_sum_of ["points", "shares"])
    (d_polar : DefF K mg "polar" s_polar ["curve", "shares"])
    (d_cut : DefF K mg "cut" s_cut ["curve", "t"])
    (d_stretch : DefF K mg "stretch" s_stretch ["curve", "s", "t"])
    (d_turned : DefF K mg "turned" s_turned ["curve"])
    (d_whole_points : DefF K mg "whole_points" s_whole_points ["points"])
    (d_goes_left : DefF K mg "goes_left" s_goes_left ["one", "other", "third"])
    (d_chain : DefF K mg "chain" s_chain ["some"])
    (d_hull_of_whole : DefF K mg "hull_of_whole" s_hull_of_whole ["some"])
    (d_hull : DefF K mg "hull" s_hull ["points"])
    (d_least_of : DefF K mg "least_of" s_least_of ["some"])
    (d_greatest_of : DefF K mg "greatest_of" s_greatest_of ["some"])
    (d_box : DefF K mg "box" s_box ["points"])
    (d_speed : DefF K mg "speed" s_speed ["curve"])
    (d_smoothness : DefF K mg "smoothness" s_smoothness ["one", "other", "most"])
    (d_blend : DefF K mg "blend" s_blend ["one", "other", "here", "there"])
    (d_map_point : DefF K mg "map_point" s_map_point ["by", "place"])
    (d_mapped : DefF K mg "mapped" s_mapped ["curve", "by"])
    (d_turn_of : DefF K mg "turn_of" s_turn_of ["one", "other"])
    (d_along : DefF K mg "along" s_along ["one", "other"])
    (d_steps_between : DefF K mg "steps_between" s_steps_between ["some", "others"])
    (d_ahead_of : DefF K mg "ahead_of" s_ahead_of ["one"])
    (d_ahead_of_two : DefF K mg "ahead_of_two" s_ahead_of_two ["one", "other"])
    (d_ahead_of_all : DefF K mg "ahead_of_all" s_ahead_of_all ["corners"])
    (d_parts_of_two : DefF K mg "parts_of_two" s_parts_of_two ["one", "other"])
    (d_parts_of : DefF K mg "parts_of" s_parts_of ["corners"])
    (d_line_by : DefF K mg "line_by" s_line_by ["way", "some", "others", "bottom"])
    (d_common_by : DefF K mg "common_by" s_common_by ["parts", "steps", "many", "more"])
    (d_parting : DefF K mg "parting" s_parting ["one", "other"])
    (d_halved : DefF K mg "halved" s_halved ["curves"])
    (d_stretches : DefF K mg "stretches" s_stretches ["curve", "level"])
    (d_beneath : DefF K mg "beneath" s_beneath ["pairs"])
    (d_meets : DefF K mg "meets" s_meets ["one", "other", "level"])
    (d_powers : DefF K mg "powers" s_powers ["curve"])
    (d_of_powers : DefF K mg "of_powers" s_of_powers ["some"])
    (d_raised : DefF K mg "raised" s_raised ["curve"])
    (d_lowered : DefF K mg "lowered" s_lowered ["curve"])
    (d_least : DefF K mg "least" s_least ["curve"])
    (d_same : DefF K mg "same" s_same ["one", "other"])
    (d_show_share : DefF K mg "show_share" s_show_share ["one"])
    (d_show_point : DefF K mg "show_point" s_show_point ["one"])
    (d_show_curve : DefF K mg "show_curve" s_show_curve ["curve"])
    (d_read_whole : DefF K mg "read_whole" s_read_whole ["text"])
    (d_read_share : DefF K mg "read_share" s_read_share ["text"])
    (d_read_point : DefF K mg "read_point" s_read_point ["text"])
    (d_read_curve : DefF K mg "read_curve" s_read_curve ["text"])
    (d_read_name : DefF K mg "read_name" s_read_name ["word"])
    (d_read_level : DefF K mg "read_level" s_read_level ["word"])
    (d_read_word : DefF K mg "read_word" s_read_word ["word", "shape"])
    (d_read_row : DefF K mg "read_row" s_read_row ["row"])
    (d__law_cell_at : DefF K mg "_law_cell_at" s__law_cell_at ["_law_script", "_law_k"])
    (d__law_stream : DefF K mg "_law_stream" s__law_stream ["_law_cell", "_law_many"])
    (d__law_share : DefF K mg "_law_share" s__law_share ["_law_top", "_law_bottom"])
    (d__law_way : DefF K mg "_law_way" s__law_way ["_law_cell"])
    (d__law_place : DefF K mg "_law_place" s__law_place ["_law_cell", "_law_way_here"])
    (d__law_handed : DefF K mg "_law_handed" s__law_handed ["_law_places", "_law_bottom"])
    (d__law_seats : DefF K mg "_law_seats" s__law_seats ["_law_cell", "_law_many", "_law_way_here"])
    (d__law_names : DefF K mg "_law_names" s__law_names ["_law_cell", "_law_many"])
    (d__law_share_text : DefF K mg "_law_share_text" s__law_share_text ["_law_one"])
    (d__law_point_text : DefF K mg "_law_point_text" s__law_point_text ["_law_place_here"])
    (d__law_curve_text : DefF K mg "_law_curve_text" s__law_curve_text ["_law_curve"])
    (d__law_filled : DefF K mg "_law_filled" s__law_filled ["_law_text", "_law_a", "_law_b", "_law_odd"])
    (d__law_no_rows : DefF K mg "_law_no_rows" s__law_no_rows ["_law_a", "_law_b"])
    (d__law_no_words : DefF K mg "_law_no_words" s__law_no_words ["_law_a", "_law_b", "_law_odd"])
    (d__law_no_names : DefF K mg "_law_no_names" s__law_no_names ["_law_a", "_law_b", "_law_odd"])
    (d__law_strangers : DefF K mg "_law_strangers" s__law_strangers ["_law_a", "_law_odd"])
    (d__law_case : DefF K mg "_law_case" s__law_case ["_law_cell", "_law_names_here", "_law_stranger"])
    (d__law_refused : DefF K mg "_law_refused" s__law_refused ["_law_desk", "_law_row", "_law_kind"])
    (d__law_state : DefF K mg "_law_state" s__law_state ["_law_desk", "_law_names_here"])
    (d_law : LawF K mg s_law "_law_script")
    (a_Sieve : PySem.W.nsIn K mainGlobals "Sieve" = some (some (.ref C_Sieve)))
    (pg_Sieve : PySem.W.plainGet K C_Sieve Str.empty = true)
    (hd_Sieve : PySem.W.hasDictIn K C_Sieve = true)
    (po_Sieve : PySem.W.plainOver K C_Sieve = true)
    (sa_Sieve : PySem.W.findIn K (.ref C_Sieve) "__setattr__" = some (some (.builtin "object.__setattr__")))
    (n_Sieve_level : PySem.W.findIn K (.ref C_Sieve) "level" = some none)
    (n_Sieve_ones : PySem.W.findIn K (.ref C_Sieve) "ones" = some none)
    (n_Sieve_others : PySem.W.findIn K (.ref C_Sieve) "others" = some none)
    (n_Sieve_pairs : PySem.W.findIn K (.ref C_Sieve) "pairs" = some none)
    (n_Sieve_thrown : PySem.W.findIn K (.ref C_Sieve) "thrown" = some none)
    (a_Desk : PySem.W.nsIn K mainGlobals "Desk" = some (some (.ref C_Desk)))
    (pg_Desk : PySem.W.plainGet K C_Desk Str.empty = true)
    (hd_Desk : PySem.W.hasDictIn K C_Desk = true)
    (po_Desk : PySem.W.plainOver K C_Desk = true)
    (sa_Desk : PySem.W.findIn K (.ref C_Desk) "__setattr__" = some (some (.builtin "object.__setattr__")))
    (n_Desk_book : PySem.W.findIn K (.ref C_Desk) "book" = some none)
    (a_SeatError : PySem.W.nsIn K mainGlobals "SeatError" = some (some (.ref C_SeatError)))
    (x_SeatError : PySem.W.excIn K C_SeatError [.type "ValueError", .type "Exception", .type "BaseException", .type "object"] "ValueError.__new__" = true)
    (k_SeatError : PySem.W.keepIn K (.ref C_SeatError) = true)
    (b_SeatError : PySem.W.subIn K (.ref C_SeatError) (.type "BaseException") = some true)
    (t_SeatError : PySem.W.typeIn K (.ref C_SeatError) = some (.type "type"))
    (h_SeatError : PySem.W.hasDictIn K C_SeatError = true)
    (a_NoShare : PySem.W.nsIn K mainGlobals "NoShare" = some (some (.ref C_NoShare)))
    (x_NoShare : PySem.W.excIn K C_NoShare [.type "ValueError", .type "Exception", .type "BaseException", .type "object"] "ValueError.__new__" = true)
    (k_NoShare : PySem.W.keepIn K (.ref C_NoShare) = true)
    (b_NoShare : PySem.W.subIn K (.ref C_NoShare) (.type "BaseException") = some true)
    (t_NoShare : PySem.W.typeIn K (.ref C_NoShare) = some (.type "type"))
    (h_NoShare : PySem.W.hasDictIn K C_NoShare = true)
    (a_NoLower : PySem.W.nsIn K mainGlobals "NoLower" = some (some (.ref C_NoLower)))
    (x_NoLower : PySem.W.excIn K C_NoLower [.type "ValueError", .type "Exception", .type "BaseException", .type "object"] "ValueError.__new__" = true)
    (k_NoLower : PySem.W.keepIn K (.ref C_NoLower) = true)
    (b_NoLower : PySem.W.subIn K (.ref C_NoLower) (.type "BaseException") = some true)
    (t_NoLower : PySem.W.typeIn K (.ref C_NoLower) = some (.type "type"))
    (h_NoLower : PySem.W.hasDictIn K C_NoLower = true)
    (a_NoMap : PySem.W.nsIn K mainGlobals "NoMap" = some (some (.ref C_NoMap)))
    (x_NoMap : PySem.W.excIn K C_NoMap [.type "ValueError", .type "Exception", .type "BaseException", .type "object"] "ValueError.__new__" = true)
    (k_NoMap : PySem.W.keepIn K (.ref C_NoMap) = true)
    (b_NoMap : PySem.W.subIn K (.ref C_NoMap) (.type "BaseException") = some true)
    (t_NoMap : PySem.W.typeIn K (.ref C_NoMap) = some (.type "type"))
    (h_NoMap : PySem.W.hasDictIn K C_NoMap = true)
    (a_NoJoin : PySem.W.nsIn K mainGlobals "NoJoin" = some (some (.ref C_NoJoin)))
    (x_NoJoin : PySem.W.excIn K C_NoJoin [.type "ValueError", .type "Exception", .type "BaseException", .type "object"] "ValueError.__new__" = true)
    (k_NoJoin : PySem.W.keepIn K (.ref C_NoJoin) = true)
    (b_NoJoin : PySem.W.subIn K (.ref C_NoJoin) (.type "BaseException") = some true)
    (t_NoJoin : PySem.W.typeIn K (.ref C_NoJoin) = some (.type "type"))
    (h_NoJoin : PySem.W.hasDictIn K C_NoJoin = true)
    (a_NoPlace : PySem.W.nsIn K mainGlobals "NoPlace" = some (some (.ref C_NoPlace)))
    (x_NoPlace : PySem.W.excIn K C_NoPlace [.type "ValueError", .type "Exception", .type "BaseException", .type "object"] "ValueError.__new__" = true)
    (k_NoPlace : PySem.W.keepIn K (.ref C_NoPlace) = true)
    (b_NoPlace : PySem.W.subIn K (.ref C_NoPlace) (.type "BaseException") = some true)
    (t_NoPlace : PySem.W.typeIn K (.ref C_NoPlace) = some (.type "type"))
    (h_NoPlace : PySem.W.hasDictIn K C_NoPlace = true)
    (a_TooMany : PySem.W.nsIn K mainGlobals "TooMany" = some (some (.ref C_TooMany)))
    (x_TooMany : PySem.W.excIn K C_TooMany [.type "ValueError", .type "Exception", .type "BaseException", .type "object"] "ValueError.__new__" = true)
    (k_TooMany : PySem.W.keepIn K (.ref C_TooMany) = true)
    (b_TooMany : PySem.W.subIn K (.ref C_TooMany) (.type "BaseException") = some true)
    (t_TooMany : PySem.W.typeIn K (.ref C_TooMany) = some (.type "type"))
    (h_TooMany : PySem.W.hasDictIn K C_TooMany = true)
    (a_NoText : PySem.W.nsIn K mainGlobals "NoText" = some (some (.ref C_NoText)))
    (x_NoText : PySem.W.excIn K C_NoText [.type "ValueError", .type "Exception", .type "BaseException", .type "object"] "ValueError.__new__" = true)
    (k_NoText : PySem.W.keepIn K (.ref C_NoText) = true)
    (b_NoText : PySem.W.subIn K (.ref C_NoText) (.type "BaseException") = some true)
    (t_NoText : PySem.W.typeIn K (.ref C_NoText) = some (.type "type"))
    (h_NoText : PySem.W.hasDictIn K C_NoText = true)
    (a_NoName : PySem.W.nsIn K mainGlobals "NoName" = some (some (.ref C_NoName)))
    (x_NoName : PySem.W.excIn K C_NoName [.type "ValueError", .type "Exception", .type "BaseException", .type "object"] "ValueError.__new__" = true)
    (k_NoName : PySem.W.keepIn K (.ref C_NoName) = true)
    (b_NoName : PySem.W.subIn K (.ref C_NoName) (.type "BaseException") = some true)
    (t_NoName : PySem.W.typeIn K (.ref C_NoName) = some (.type "type"))
    (h_NoName : PySem.W.hasDictIn K C_NoName = true)
    (q_NoText_hg : PySem.W.findIn K (.ref C_NoText) "__getattribute__" = some (some (.builtin "BaseException.__getattribute__")))
    (q_NoText_hk : PySem.W.findIn K (.ref C_NoText) "__getattr__" = some none)
    (q_NoText_hs : PySem.W.subIn K (.ref C_NoText) (.type "BaseException") = some true)
    (q_NoText_hd : PySem.W.hasDictIn K C_NoText = true)
    (q_NoText_ha : PySem.W.findIn K (.ref C_NoText) "__class__" = some (some (.builtin "object.__class__")))
    (q_NoText_hn : PySem.W.specialIn K (.builtin "object.__class__") "__get__" = some (some (.builtin "getset_descriptor.__get__")))
    (q_NoText_ht : PySem.W.takesIn K (.builtin "object.__class__") = some true)
    (q_NoText_hm : PySem.W.mroIn K C_NoText (.type "object") = some true)
    (s_NoText_NoJoin : PySem.W.subIn K (.ref C_NoText) (.ref C_NoJoin) = some false)
    (n_NoText_NoJoin : (Value.ref C_NoText == Value.ref C_NoJoin) = false)
    (s_NoText_NoLower : PySem.W.subIn K (.ref C_NoText) (.ref C_NoLower) = some false)
    (n_NoText_NoLower : (Value.ref C_NoText == Value.ref C_NoLower) = false)
    (s_NoText_NoMap : PySem.W.subIn K (.ref C_NoText) (.ref C_NoMap) = some false)
    (n_NoText_NoMap : (Value.ref C_NoText == Value.ref C_NoMap) = false)
    (s_NoText_NoName : PySem.W.subIn K (.ref C_NoText) (.ref C_NoName) = some false)
    (n_NoText_NoName : (Value.ref C_NoText == Value.ref C_NoName) = false)
    (s_NoText_NoPlace : PySem.W.subIn K (.ref C_NoText) (.ref C_NoPlace) = some false)
    (n_NoText_NoPlace : (Value.ref C_NoText == Value.ref C_NoPlace) = false)
    (s_NoText_NoShare : PySem.W.subIn K (.ref C_NoText) (.ref C_NoShare) = some false)
    (n_NoText_NoShare : (Value.ref C_NoText == Value.ref C_NoShare) = false)
    (s_NoText_NoText : PySem.W.subIn K (.ref C_NoText) (.ref C_NoText) = some true)
    (s_NoText_SeatError : PySem.W.subIn K (.ref C_NoText) (.ref C_SeatError) = some true)
    (s_NoText_TooMany : PySem.W.subIn K (.ref C_NoText) (.ref C_TooMany) = some false)
    (n_NoText_TooMany : (Value.ref C_NoText == Value.ref C_TooMany) = false)
    (s_NoText_ValueError : PySem.W.subIn K (.ref C_NoText) (.type "ValueError") = some true)
    (q_NoName_hg : PySem.W.findIn K (.ref C_NoName) "__getattribute__" = some (some (.builtin "BaseException.__getattribute__")))
    (q_NoName_hk : PySem.W.findIn K (.ref C_NoName) "__getattr__" = some none)
    (q_NoName_hs : PySem.W.subIn K (.ref C_NoName) (.type "BaseException") = some true)
    (q_NoName_hd : PySem.W.hasDictIn K C_NoName = true)
    (q_NoName_ha : PySem.W.findIn K (.ref C_NoName) "__class__" = some (some (.builtin "object.__class__")))
    (q_NoName_hn : PySem.W.specialIn K (.builtin "object.__class__") "__get__" = some (some (.builtin "getset_descriptor.__get__")))
    (q_NoName_ht : PySem.W.takesIn K (.builtin "object.__class__") = some true)
    (q_NoName_hm : PySem.W.mroIn K C_NoName (.type "object") = some true)
    (s_NoName_NoJoin : PySem.W.subIn K (.ref C_NoName) (.ref C_NoJoin) = some false)
    (n_NoName_NoJoin : (Value.ref C_NoName == Value.ref C_NoJoin) = false)
    (s_NoName_NoLower : PySem.W.subIn K (.ref C_NoName) (.ref C_NoLower) = some false)
    (n_NoName_NoLower : (Value.ref C_NoName == Value.ref C_NoLower) = false)
    (s_NoName_NoMap : PySem.W.subIn K (.ref C_NoName) (.ref C_NoMap) = some false)
    (n_NoName_NoMap : (Value.ref C_NoName == Value.ref C_NoMap) = false)
    (s_NoName_NoName : PySem.W.subIn K (.ref C_NoName) (.ref C_NoName) = some true)
    (s_NoName_NoPlace : PySem.W.subIn K (.ref C_NoName) (.ref C_NoPlace) = some false)
    (n_NoName_NoPlace : (Value.ref C_NoName == Value.ref C_NoPlace) = false)
    (s_NoName_NoShare : PySem.W.subIn K (.ref C_NoName) (.ref C_NoShare) = some false)
    (n_NoName_NoShare : (Value.ref C_NoName == Value.ref C_NoShare) = false)
    (s_NoName_NoText : PySem.W.subIn K (.ref C_NoName) (.ref C_NoText) = some false)
    (n_NoName_NoText : (Value.ref C_NoName == Value.ref C_NoText) = false)
    (s_NoName_SeatError : PySem.W.subIn K (.ref C_NoName) (.ref C_SeatError) = some true)
    (s_NoName_TooMany : PySem.W.subIn K (.ref C_NoName) (.ref C_TooMany) = some false)
    (n_NoName_TooMany : (Value.ref C_NoName == Value.ref C_TooMany) = false)
    (s_NoName_ValueError : PySem.W.subIn K (.ref C_NoName) (.type "ValueError") = some true)
    (q_TooMany_hg : PySem.W.findIn K (.ref C_TooMany) "__getattribute__" = some (some (.builtin "BaseException.__getattribute__")))
    (q_TooMany_hk : PySem.W.findIn K (.ref C_TooMany) "__getattr__" = some none)
    (q_TooMany_hs : PySem.W.subIn K (.ref C_TooMany) (.type "BaseException") = some true)
    (q_TooMany_hd : PySem.W.hasDictIn K C_TooMany = true)
    (q_TooMany_ha : PySem.W.findIn K (.ref C_TooMany) "__class__" = some (some (.builtin "object.__class__")))
    (q_TooMany_hn : PySem.W.specialIn K (.builtin "object.__class__") "__get__" = some (some (.builtin "getset_descriptor.__get__")))
    (q_TooMany_ht : PySem.W.takesIn K (.builtin "object.__class__") = some true)
    (q_TooMany_hm : PySem.W.mroIn K C_TooMany (.type "object") = some true)
    (s_TooMany_NoJoin : PySem.W.subIn K (.ref C_TooMany) (.ref C_NoJoin) = some false)
    (n_TooMany_NoJoin : (Value.ref C_TooMany == Value.ref C_NoJoin) = false)
    (s_TooMany_NoLower : PySem.W.subIn K (.ref C_TooMany) (.ref C_NoLower) = some false)
    (n_TooMany_NoLower : (Value.ref C_TooMany == Value.ref C_NoLower) = false)
    (s_TooMany_NoMap : PySem.W.subIn K (.ref C_TooMany) (.ref C_NoMap) = some false)
    (n_TooMany_NoMap : (Value.ref C_TooMany == Value.ref C_NoMap) = false)
    (s_TooMany_NoName : PySem.W.subIn K (.ref C_TooMany) (.ref C_NoName) = some false)
    (n_TooMany_NoName : (Value.ref C_TooMany == Value.ref C_NoName) = false)
    (s_TooMany_NoPlace : PySem.W.subIn K (.ref C_TooMany) (.ref C_NoPlace) = some false)
    (n_TooMany_NoPlace : (Value.ref C_TooMany == Value.ref C_NoPlace) = false)
    (s_TooMany_NoShare : PySem.W.subIn K (.ref C_TooMany) (.ref C_NoShare) = some false)
    (n_TooMany_NoShare : (Value.ref C_TooMany == Value.ref C_NoShare) = false)
    (s_TooMany_NoText : PySem.W.subIn K (.ref C_TooMany) (.ref C_NoText) = some false)
    (n_TooMany_NoText : (Value.ref C_TooMany == Value.ref C_NoText) = false)
    (s_TooMany_SeatError : PySem.W.subIn K (.ref C_TooMany) (.ref C_SeatError) = some true)
    (s_TooMany_TooMany : PySem.W.subIn K (.ref C_TooMany) (.ref C_TooMany) = some true)
    (s_TooMany_ValueError : PySem.W.subIn K (.ref C_TooMany) (.type "ValueError") = some true)
    (q_NoLower_hg : PySem.W.findIn K (.ref C_NoLower) "__getattribute__" = some (some (.builtin "BaseException.__getattribute__")))
    (q_NoLower_hk : PySem.W.findIn K (.ref C_NoLower) "__getattr__" = some none)
    (q_NoLower_hs : PySem.W.subIn K (.ref C_NoLower) (.type "BaseException") = some true)
    (q_NoLower_hd : PySem.W.hasDictIn K C_NoLower = true)
    (q_NoLower_ha : PySem.W.findIn K (.ref C_NoLower) "__class__" = some (some (.builtin "object.__class__")))
    (q_NoLower_hn : PySem.W.specialIn K (.builtin "object.__class__") "__get__" = some (some (.builtin "getset_descriptor.__get__")))
    (q_NoLower_ht : PySem.W.takesIn K (.builtin "object.__class__") = some true)
    (q_NoLower_hm : PySem.W.mroIn K C_NoLower (.type "object") = some true)
    (s_NoLower_NoJoin : PySem.W.subIn K (.ref C_NoLower) (.ref C_NoJoin) = some false)
    (n_NoLower_NoJoin : (Value.ref C_NoLower == Value.ref C_NoJoin) = false)
    (s_NoLower_NoLower : PySem.W.subIn K (.ref C_NoLower) (.ref C_NoLower) = some true)
    (s_NoLower_NoMap : PySem.W.subIn K (.ref C_NoLower) (.ref C_NoMap) = some false)
    (n_NoLower_NoMap : (Value.ref C_NoLower == Value.ref C_NoMap) = false)
    (s_NoLower_NoName : PySem.W.subIn K (.ref C_NoLower) (.ref C_NoName) = some false)
    (n_NoLower_NoName : (Value.ref C_NoLower == Value.ref C_NoName) = false)
    (s_NoLower_NoPlace : PySem.W.subIn K (.ref C_NoLower) (.ref C_NoPlace) = some false)
    (n_NoLower_NoPlace : (Value.ref C_NoLower == Value.ref C_NoPlace) = false)
    (s_NoLower_NoShare : PySem.W.subIn K (.ref C_NoLower) (.ref C_NoShare) = some false)
    (n_NoLower_NoShare : (Value.ref C_NoLower == Value.ref C_NoShare) = false)
    (s_NoLower_NoText : PySem.W.subIn K (.ref C_NoLower) (.ref C_NoText) = some false)
    (n_NoLower_NoText : (Value.ref C_NoLower == Value.ref C_NoText) = false)
    (s_NoLower_SeatError : PySem.W.subIn K (.ref C_NoLower) (.ref C_SeatError) = some true)
    (s_NoLower_TooMany : PySem.W.subIn K (.ref C_NoLower) (.ref C_TooMany) = some false)
    (n_NoLower_TooMany : (Value.ref C_NoLower == Value.ref C_TooMany) = false)
    (s_NoLower_ValueError : PySem.W.subIn K (.ref C_NoLower) (.type "ValueError") = some true)
    (m_ValueError : PySem.W.nsIn K mainGlobals "ValueError" = some none)
    (m_abs : PySem.W.nsIn K mainGlobals "abs" = some none)
    (m_divmod : PySem.W.nsIn K mainGlobals "divmod" = some none)
    (m_enumerate : PySem.W.nsIn K mainGlobals "enumerate" = some none)
    (m_int : PySem.W.nsIn K mainGlobals "int" = some none)
    (m_isinstance : PySem.W.nsIn K mainGlobals "isinstance" = some none)
    (m_len : PySem.W.nsIn K mainGlobals "len" = some none)
    (m_list : PySem.W.nsIn K mainGlobals "list" = some none)
    (m_max : PySem.W.nsIn K mainGlobals "max" = some none)
    (m_min : PySem.W.nsIn K mainGlobals "min" = some none)
    (m_range : PySem.W.nsIn K mainGlobals "range" = some none)
    (m_reversed : PySem.W.nsIn K mainGlobals "reversed" = some none)
    (m_set : PySem.W.nsIn K mainGlobals "set" = some none)
    (m_sorted : PySem.W.nsIn K mainGlobals "sorted" = some none)
    (m_str : PySem.W.nsIn K mainGlobals "str" = some none)
    (m_sum : PySem.W.nsIn K mainGlobals "sum" = some none)
    (m_tuple : PySem.W.nsIn K mainGlobals "tuple" = some none)
    (m_zip : PySem.W.nsIn K mainGlobals "zip" = some none)
    (g_NOUGHT_curves : PySem.W.nsIn K mainGlobals "NOUGHT_curves" = some (some (.ref c_NOUGHT_curves)))
    (l_NOUGHT_curves : List.lookup c_NOUGHT_curves K = some o_NOUGHT_curves)
    (y_NOUGHT_curves : o_NOUGHT_curves.cls = .type "tuple")
    (s_NOUGHT_curves : o_NOUGHT_curves.data = .seq #[.int 0 u_NOUGHT_curves, .int 1 v_NOUGHT_curves] w_NOUGHT_curves)
    (g_NOUGHT_partings : PySem.W.nsIn K mainGlobals "NOUGHT_partings" = some (some (.ref c_NOUGHT_partings)))
    (l_NOUGHT_partings : List.lookup c_NOUGHT_partings K = some o_NOUGHT_partings)
    (y_NOUGHT_partings : o_NOUGHT_partings.cls = .type "tuple")
    (s_NOUGHT_partings : o_NOUGHT_partings.data = .seq #[.int 0 u_NOUGHT_partings, .int 1 v_NOUGHT_partings] w_NOUGHT_partings)
    (g_HALF : PySem.W.nsIn K mainGlobals "HALF" = some (some (.ref c_HALF)))
    (l_HALF : List.lookup c_HALF K = some o_HALF)
    (y_HALF : o_HALF.cls = .type "tuple")
    (s_HALF : o_HALF.data = .seq #[.int 1 u_HALF, .int 2 v_HALF] w_HALF)
    (g_MOST_PAIRS : PySem.W.nsIn K mainGlobals "MOST_PAIRS" = some (some (.int 256 t_MOST_PAIRS)))
    (g_MOST_SEATS : PySem.W.nsIn K mainGlobals "MOST_SEATS" = some (some (.int 12 t_MOST_SEATS)))
    (g_NOUGHT_raising : PySem.W.nsIn K mainGlobals "NOUGHT_raising" = some (some (.ref c_NOUGHT_raising)))
    (l_NOUGHT_raising : List.lookup c_NOUGHT_raising K = some o_NOUGHT_raising)
    (y_NOUGHT_raising : o_NOUGHT_raising.cls = .type "tuple")
    (s_NOUGHT_raising : o_NOUGHT_raising.data = .seq #[.ref a_NOUGHT_raising, .ref b_NOUGHT_raising] w_NOUGHT_raising)
    (l_NOUGHT_raising1 : List.lookup a_NOUGHT_raising K = some o_NOUGHT_raising1)
    (y_NOUGHT_raising1 : o_NOUGHT_raising1.cls = .type "tuple")
    (s_NOUGHT_raising1 : o_NOUGHT_raising1.data = .seq #[.int 0 u_NOUGHT_raising1, .int 1 v_NOUGHT_raising1] w_NOUGHT_raising1)
    (l_NOUGHT_raising2 : List.lookup b_NOUGHT_raising K = some o_NOUGHT_raising2)
    (y_NOUGHT_raising2 : o_NOUGHT_raising2.cls = .type "tuple")
    (s_NOUGHT_raising2 : o_NOUGHT_raising2.data = .seq #[.int 0 u_NOUGHT_raising2, .int 1 v_NOUGHT_raising2] w_NOUGHT_raising2)
    (g_FIGURES : PySem.W.nsIn K mainGlobals "FIGURES" = some (some (.str "0123456789" t_FIGURES)))
    (g_MOST_FIGURES : PySem.W.nsIn K mainGlobals "MOST_FIGURES" = some (some (.int 100 t_MOST_FIGURES)))
    (g_MOST_PARTS : PySem.W.nsIn K mainGlobals "MOST_PARTS" = some (some (.int 12 t_MOST_PARTS)))
    (g_LETTERS : PySem.W.nsIn K mainGlobals "LETTERS" = some (some (.str "abcdefghijklmnopqrstuvwxyz" t_LETTERS)))
    (g_MOST_LETTERS : PySem.W.nsIn K mainGlobals "MOST_LETTERS" = some (some (.int 12 t_MOST_LETTERS)))
    (g_MOST_SMOOTH : PySem.W.nsIn K mainGlobals "MOST_SMOOTH" = some (some (.int 11 t_MOST_SMOOTH)))
    (g_SHAPES : PySem.W.nsIn K mainGlobals "SHAPES" = some (some (.ref c_SHAPES)))
    (l_SHAPES : List.lookup c_SHAPES K = some ⟨.type "dict", none, .dict es_SHAPES n_SHAPES, #[]⟩)
    (e_SHAPES : C7.EntT w.params es_SHAPES.toList kvs_SHAPES)
    (z_SHAPES : (c_SHAPES == sysModules) = false)
    (d_Sieve___init__ : InF K C_Sieve "Sieve.__init__" s_Sieve___init__ ["self", "one", "other"])
    (d_Sieve_look : MtF K C_Sieve "look" "Sieve.look" s_Sieve_look ["self", "pairs"])
    (d_Sieve_go_down : MtF K C_Sieve "go_down" "Sieve.go_down" s_Sieve_go_down ["self"])
    (d_Desk___init__ : InF K C_Desk "Desk.__init__" s_Desk___init__ ["self"])
    (d_Desk_say : MtF K C_Desk "say" "Desk.say" s_Desk_say ["self", "row"])
    (d_Desk_put : MtF K C_Desk "put" "Desk.put" s_Desk_put ["self", "name", "curve"])
    (d_Desk_compared : MtF K C_Desk "compared" "Desk.compared" s_Desk_compared ["self", "word", "one", "other", "last"])
    (d_Desk_asked : MtF K C_Desk "asked" "Desk.asked" s_Desk_asked ["self", "word", "curve", "parts"])
    (d_Desk_changed : MtF K C_Desk "changed" "Desk.changed" s_Desk_changed ["self", "word", "curve", "parts"])
    : ∃ st, LawF K mg st "_law_script" ∧ ∀ (base : Heap) (f : Addr) (fd : FuncData), Fun K "law" "law" st f fd → FnOk l.prog w K mg base (L2N.CX l.prog w) 13 f fd ["_law_script"] (spOf K ctLaw) :=
  ⟨s_law, d_law, fun base f fd F => ok_law { d_common_part := d_common_part, d_share := d_share, d_plus := d_plus, d_minus := d_minus, d_times := d_times, d_under := d_under, d_between := d_between, d_on_way := d_on_way, d_step := d_step, d_moved := d_moved, d_next_row := d_next_row, d_rows := d_rows, d_point := d_point, d_ways := d_ways, d_sum_of := d_sum_of, d_polar := d_polar, d_cut := d_cut, d_stretch := d_stretch, d_turned := d_turned, d_whole_points := d_whole_points, d_goes_left := d_goes_left, d_chain := d_chain, d_hull_of_whole := d_hull_of_whole, d_hull := d_hull, d_least_of := d_least_of, d_greatest_of := d_greatest_of, d_box := d_box, d_speed := d_speed, d_smoothness := d_smoothness, d_blend := d_blend, d_map_point := d_map_point, d_mapped := d_mapped, d_turn_of := d_turn_of, d_along := d_along, d_steps_between := d_steps_between, d_ahead_of := d_ahead_of, d_ahead_of_two := d_ahead_of_two, d_ahead_of_all := d_ahead_of_all, d_parts_of_two := d_parts_of_two, d_parts_of := d_parts_of, d_line_by := d_line_by, d_common_by := d_common_by, d_parting := d_parting, d_halved := d_halved, d_stretches := d_stretches, d_beneath := d_beneath, d_meets := d_meets, d_powers := d_powers, d_of_powers := d_of_powers, d_raised := d_raised, d_lowered := d_lowered, d_least := d_least, d_same := d_same, d_show_share := d_show_share, d_show_point := d_show_point, d_show_curve := d_show_curve, d_read_whole := d_read_whole, d_read_share := d_read_share, d_read_point := d_read_point, d_read_curve := d_read_curve, d_read_name := d_read_name, d_read_level := d_read_level, d_read_word := d_read_word, d_read_row := d_read_row, d__law_cell_at := d__law_cell_at, d__law_stream := d__law_stream, d__law_share := d__law_share, d__law_way := d__law_way, d__law_place := d__law_place, d__law_handed := d__law_handed, d__law_seats := d__law_seats, d__law_names := d__law_names, d__law_share_text := d__law_share_text, d__law_point_text := d__law_point_text, d__law_curve_text := d__law_curve_text, d__law_filled := d__law_filled, d__law_no_rows := d__law_no_rows, d__law_no_words := d__law_no_words, d__law_no_names := d__law_no_names, d__law_strangers := d__law_strangers, d__law_case := d__law_case, d__law_refused := d__law_refused, d__law_state := d__law_state, d_law := d_law, C_Sieve := C_Sieve, l_Sieve := ⟨⟨pg_Sieve, hd_Sieve, po_Sieve, sa_Sieve⟩, PySem.W.mg_of X G a_Sieve⟩, n_Sieve_level := n_Sieve_level, n_Sieve_ones := n_Sieve_ones, n_Sieve_others := n_Sieve_others, n_Sieve_pairs := n_Sieve_pairs, n_Sieve_thrown := n_Sieve_thrown, d_Sieve___init__ := d_Sieve___init__, d_Sieve_look := d_Sieve_look, d_Sieve_go_down := d_Sieve_go_down, C_Desk := C_Desk, l_Desk := ⟨⟨pg_Desk, hd_Desk, po_Desk, sa_Desk⟩, PySem.W.mg_of X G a_Desk⟩, n_Desk_book := n_Desk_book, d_Desk___init__ := d_Desk___init__, d_Desk_say := d_Desk_say, d_Desk_put := d_Desk_put, d_Desk_compared := d_Desk_compared, d_Desk_asked := d_Desk_asked, d_Desk_changed := d_Desk_changed, C_SeatError := C_SeatError, e_SeatError := ⟨PySem.W.mg_of X G a_SeatError, x_SeatError, k_SeatError, b_SeatError, t_SeatError, h_SeatError⟩, C_NoShare := C_NoShare, e_NoShare := ⟨PySem.W.mg_of X G a_NoShare, x_NoShare, k_NoShare, b_NoShare, t_NoShare, h_NoShare⟩, C_NoLower := C_NoLower, e_NoLower := ⟨PySem.W.mg_of X G a_NoLower, x_NoLower, k_NoLower, b_NoLower, t_NoLower, h_NoLower⟩, C_NoMap := C_NoMap, e_NoMap := ⟨PySem.W.mg_of X G a_NoMap, x_NoMap, k_NoMap, b_NoMap, t_NoMap, h_NoMap⟩, C_NoJoin := C_NoJoin, e_NoJoin := ⟨PySem.W.mg_of X G a_NoJoin, x_NoJoin, k_NoJoin, b_NoJoin, t_NoJoin, h_NoJoin⟩, C_NoPlace := C_NoPlace, e_NoPlace := ⟨PySem.W.mg_of X G a_NoPlace, x_NoPlace, k_NoPlace, b_NoPlace, t_NoPlace, h_NoPlace⟩, C_TooMany := C_TooMany, e_TooMany := ⟨PySem.W.mg_of X G a_TooMany, x_TooMany, k_TooMany, b_TooMany, t_TooMany, h_TooMany⟩, C_NoText := C_NoText, e_NoText := ⟨PySem.W.mg_of X G a_NoText, x_NoText, k_NoText, b_NoText, t_NoText, h_NoText⟩, C_NoName := C_NoName, e_NoName := ⟨PySem.W.mg_of X G a_NoName, x_NoName, k_NoName, b_NoName, t_NoName, h_NoName⟩, q_NoText := ⟨q_NoText_hg, q_NoText_hk, q_NoText_hs, q_NoText_hd, q_NoText_ha, q_NoText_hn, q_NoText_ht, q_NoText_hm⟩, x_NoText_SeatError := exm_own (x := "SeatError") (mg := mg) ⟨PySem.W.mg_of X G a_SeatError, x_SeatError, k_SeatError, b_SeatError, t_SeatError, h_SeatError⟩ s_NoText_SeatError, k_NoText_NoJoin := kit_ref (x := "NoJoin") (mg := mg) ⟨PySem.W.mg_of X G a_NoJoin, x_NoJoin, k_NoJoin, b_NoJoin, t_NoJoin, h_NoJoin⟩ s_NoText_NoJoin (.inr n_NoText_NoJoin), k_NoText_NoMap := kit_ref (x := "NoMap") (mg := mg) ⟨PySem.W.mg_of X G a_NoMap, x_NoMap, k_NoMap, b_NoMap, t_NoMap, h_NoMap⟩ s_NoText_NoMap (.inr n_NoText_NoMap), k_NoText_NoPlace := kit_ref (x := "NoPlace") (mg := mg) ⟨PySem.W.mg_of X G a_NoPlace, x_NoPlace, k_NoPlace, b_NoPlace, t_NoPlace, h_NoPlace⟩ s_NoText_NoPlace (.inr n_NoText_NoPlace), k_NoText_NoShare := kit_ref (x := "NoShare") (mg := mg) ⟨PySem.W.mg_of X G a_NoShare, x_NoShare, k_NoShare, b_NoShare, t_NoShare, h_NoShare⟩ s_NoText_NoShare (.inr n_NoText_NoShare), k_NoText_NoText := kit_ref (x := "NoText") (mg := mg) ⟨PySem.W.mg_of X G a_NoText, x_NoText, k_NoText, b_NoText, t_NoText, h_NoText⟩ s_NoText_NoText (.inl rfl), k_NoText_NoName := kit_ref (x := "NoName") (mg := mg) ⟨PySem.W.mg_of X G a_NoName, x_NoName, k_NoName, b_NoName, t_NoName, h_NoName⟩ s_NoText_NoName (.inr n_NoText_NoName), k_NoText_TooMany := kit_ref (x := "TooMany") (mg := mg) ⟨PySem.W.mg_of X G a_TooMany, x_TooMany, k_TooMany, b_TooMany, t_TooMany, h_TooMany⟩ s_NoText_TooMany (.inr n_NoText_TooMany), k_NoText_NoLower := kit_ref (x := "NoLower") (mg := mg) ⟨PySem.W.mg_of X G a_NoLower, x_NoLower, k_NoLower, b_NoLower, t_NoLower, h_NoLower⟩ s_NoText_NoLower (.inr n_NoText_NoLower), k_NoText_ValueError := kit_type (by decide +kernel) s_NoText_ValueError, q_NoName := ⟨q_NoName_hg, q_NoName_hk, q_NoName_hs, q_NoName_hd, q_NoName_ha, q_NoName_hn, q_NoName_ht, q_NoName_hm⟩, x_NoName_SeatError := exm_own (x := "SeatError") (mg := mg) ⟨PySem.W.mg_of X G a_SeatError, x_SeatError, k_SeatError, b_SeatError, t_SeatError, h_SeatError⟩ s_NoName_SeatError, k_NoName_NoJoin := kit_ref (x := "NoJoin") (mg := mg) ⟨PySem.W.mg_of X G a_NoJoin, x_NoJoin, k_NoJoin, b_NoJoin, t_NoJoin, h_NoJoin⟩ s_NoName_NoJoin (.inr n_NoName_NoJoin), k_NoName_NoMap := kit_ref (x := "NoMap") (mg := mg) ⟨PySem.W.mg_of X G a_NoMap, x_NoMap, k_NoMap, b_NoMap, t_NoMap, h_NoMap⟩ s_NoName_NoMap (.inr n_NoName_NoMap), k_NoName_NoPlace := kit_ref (x := "NoPlace") (mg := mg) ⟨PySem.W.mg_of X G a_NoPlace, x_NoPlace, k_NoPlace, b_NoPlace, t_NoPlace, h_NoPlace⟩ s_NoName_NoPlace (.inr n_NoName_NoPlace), k_NoName_NoShare := kit_ref (x := "NoShare") (mg := mg) ⟨PySem.W.mg_of X G a_NoShare, x_NoShare, k_NoShare, b_NoShare, t_NoShare, h_NoShare⟩ s_NoName_NoShare (.inr n_NoName_NoShare), k_NoName_NoText := kit_ref (x := "NoText") (mg := mg) ⟨PySem.W.mg_of X G a_NoText, x_NoText, k_NoText, b_NoText, t_NoText, h_NoText⟩ s_NoName_NoText (.inr n_NoName_NoText), k_NoName_NoName := kit_ref (x := "NoName") (mg := mg) ⟨PySem.W.mg_of X G a_NoName, x_NoName, k_NoName, b_NoName, t_NoName, h_NoName⟩ s_NoName_NoName (.inl rfl), k_NoName_TooMany := kit_ref (x := "TooMany") (mg := mg) ⟨PySem.W.mg_of X G a_TooMany, x_TooMany, k_TooMany, b_TooMany, t_TooMany, h_TooMany⟩ s_NoName_TooMany (.inr n_NoName_TooMany), k_NoName_NoLower := kit_ref (x := "NoLower") (mg := mg) ⟨PySem.W.mg_of X G a_NoLower, x_NoLower, k_NoLower, b_NoLower, t_NoLower, h_NoLower⟩ s_NoName_NoLower (.inr n_NoName_NoLower), k_NoName_ValueError := kit_type (by decide +kernel) s_NoName_ValueError, q_TooMany := ⟨q_TooMany_hg, q_TooMany_hk, q_TooMany_hs, q_TooMany_hd, q_TooMany_ha, q_TooMany_hn, q_TooMany_ht, q_TooMany_hm⟩, x_TooMany_SeatError := exm_own (x := "SeatError") (mg := mg) ⟨PySem.W.mg_of X G a_SeatError, x_SeatError, k_SeatError, b_SeatError, t_SeatError, h_SeatError⟩ s_TooMany_SeatError, k_TooMany_NoJoin := kit_ref (x := "NoJoin") (mg := mg) ⟨PySem.W.mg_of X G a_NoJoin, x_NoJoin, k_NoJoin, b_NoJoin, t_NoJoin, h_NoJoin⟩ s_TooMany_NoJoin (.inr n_TooMany_NoJoin), k_TooMany_NoMap := kit_ref (x := "NoMap") (mg := mg) ⟨PySem.W.mg_of X G a_NoMap, x_NoMap, k_NoMap, b_NoMap, t_NoMap, h_NoMap⟩ s_TooMany_NoMap (.inr n_TooMany_NoMap), k_TooMany_NoPlace := kit_ref (x := "NoPlace") (mg := mg) ⟨PySem.W.mg_of X G a_NoPlace, x_NoPlace, k_NoPlace, b_NoPlace, t_NoPlace, h_NoPlace⟩ s_TooMany_NoPlace (.inr n_TooMany_NoPlace), k_TooMany_NoShare := kit_ref (x := "NoShare") (mg := mg) ⟨PySem.W.mg_of X G a_NoShare, x_NoShare, k_NoShare, b_NoShare, t_NoShare, h_NoShare⟩ s_TooMany_NoShare (.inr n_TooMany_NoShare), k_TooMany_NoText := kit_ref (x := "NoText") (mg := mg) ⟨PySem.W.mg_of X G a_NoText, x_NoText, k_NoText, b_NoText, t_NoText, h_NoText⟩ s_TooMany_NoText (.inr n_TooMany_NoText), k_TooMany_NoName := kit_ref (x := "NoName") (mg := mg) ⟨PySem.W.mg_of X G a_NoName, x_NoName, k_NoName, b_NoName, t_NoName, h_NoName⟩ s_TooMany_NoName (.inr n_TooMany_NoName), k_TooMany_TooMany := kit_ref (x := "TooMany") (mg := mg) ⟨PySem.W.mg_of X G a_TooMany, x_TooMany, k_TooMany, b_TooMany, t_TooMany, h_TooMany⟩ s_TooMany_TooMany (.inl rfl), k_TooMany_NoLower := kit_ref (x := "NoLower") (mg := mg) ⟨PySem.W.mg_of X G a_NoLower, x_NoLower, k_NoLower, b_NoLower, t_NoLower, h_NoLower⟩ s_TooMany_NoLower (.inr n_TooMany_NoLower), k_TooMany_ValueError := kit_type (by decide +kernel) s_TooMany_ValueError, q_NoLower := ⟨q_NoLower_hg, q_NoLower_hk, q_NoLower_hs, q_NoLower_hd, q_NoLower_ha, q_NoLower_hn, q_NoLower_ht, q_NoLower_hm⟩, x_NoLower_SeatError := exm_own (x := "SeatError") (mg := mg) ⟨PySem.W.mg_of X G a_SeatError, x_SeatError, k_SeatError, b_SeatError, t_SeatError, h_SeatError⟩ s_NoLower_SeatError, k_NoLower_NoJoin := kit_ref (x := "NoJoin") (mg := mg) ⟨PySem.W.mg_of X G a_NoJoin, x_NoJoin, k_NoJoin, b_NoJoin, t_NoJoin, h_NoJoin⟩ s_NoLower_NoJoin (.inr n_NoLower_NoJoin), k_NoLower_NoMap := kit_ref (x := "NoMap") (mg := mg) ⟨PySem.W.mg_of X G a_NoMap, x_NoMap, k_NoMap, b_NoMap, t_NoMap, h_NoMap⟩ s_NoLower_NoMap (.inr n_NoLower_NoMap), k_NoLower_NoPlace := kit_ref (x := "NoPlace") (mg := mg) ⟨PySem.W.mg_of X G a_NoPlace, x_NoPlace, k_NoPlace, b_NoPlace, t_NoPlace, h_NoPlace⟩ s_NoLower_NoPlace (.inr n_NoLower_NoPlace), k_NoLower_NoShare := kit_ref (x := "NoShare") (mg := mg) ⟨PySem.W.mg_of X G a_NoShare, x_NoShare, k_NoShare, b_NoShare, t_NoShare, h_NoShare⟩ s_NoLower_NoShare (.inr n_NoLower_NoShare), k_NoLower_NoText := kit_ref (x := "NoText") (mg := mg) ⟨PySem.W.mg_of X G a_NoText, x_NoText, k_NoText, b_NoText, t_NoText, h_NoText⟩ s_NoLower_NoText (.inr n_NoLower_NoText), k_NoLower_NoName := kit_ref (x := "NoName") (mg := mg) ⟨PySem.W.mg_of X G a_NoName, x_NoName, k_NoName, b_NoName, t_NoName, h_NoName⟩ s_NoLower_NoName (.inr n_NoLower_NoName), k_NoLower_TooMany := kit_ref (x := "TooMany") (mg := mg) ⟨PySem.W.mg_of X G a_TooMany, x_TooMany, k_TooMany, b_TooMany, t_TooMany, h_TooMany⟩ s_NoLower_TooMany (.inr n_NoLower_TooMany), k_NoLower_NoLower := kit_ref (x := "NoLower") (mg := mg) ⟨PySem.W.mg_of X G a_NoLower, x_NoLower, k_NoLower, b_NoLower, t_NoLower, h_NoLower⟩ s_NoLower_NoLower (.inl rfl), k_NoLower_ValueError := kit_type (by decide +kernel) s_NoLower_ValueError, m_ValueError := PySem.W.mg_none_of X G m_ValueError, m_abs := PySem.W.mg_none_of X G m_abs, m_divmod := PySem.W.mg_none_of X G m_divmod, m_enumerate := PySem.W.mg_none_of X G m_enumerate, m_int := PySem.W.mg_none_of X G m_int, m_isinstance := PySem.W.mg_none_of X G m_isinstance, m_len := PySem.W.mg_none_of X G m_len, m_list := PySem.W.mg_none_of X G m_list, m_max := PySem.W.mg_none_of X G m_max, m_min := PySem.W.mg_none_of X G m_min, m_range := PySem.W.mg_none_of X G m_range, m_reversed := PySem.W.mg_none_of X G m_reversed, m_set := PySem.W.mg_none_of X G m_set, m_sorted := PySem.W.mg_none_of X G m_sorted, m_str := PySem.W.mg_none_of X G m_str, m_sum := PySem.W.mg_none_of X G m_sum, m_tuple := PySem.W.mg_none_of X G m_tuple, m_zip := PySem.W.mg_none_of X G m_zip, c_NOUGHT_curves := c_NOUGHT_curves, g_NOUGHT_curves := PySem.W.mg_of X G g_NOUGHT_curves, r_NOUGHT_curves := kTup2 l_NOUGHT_curves y_NOUGHT_curves s_NOUGHT_curves, c_NOUGHT_partings := c_NOUGHT_partings, g_NOUGHT_partings := PySem.W.mg_of X G g_NOUGHT_partings, r_NOUGHT_partings := kTup2 l_NOUGHT_partings y_NOUGHT_partings s_NOUGHT_partings, c_HALF := c_HALF, g_HALF := PySem.W.mg_of X G g_HALF, r_HALF := kTup2 l_HALF y_HALF s_HALF, g_MOST_PAIRS := ⟨_, PySem.W.mg_of X G g_MOST_PAIRS⟩, g_MOST_SEATS := ⟨_, PySem.W.mg_of X G g_MOST_SEATS⟩, c_NOUGHT_raising := c_NOUGHT_raising, g_NOUGHT_raising := PySem.W.mg_of X G g_NOUGHT_raising, r_NOUGHT_raising := fun H => kTupP l_NOUGHT_raising y_NOUGHT_raising s_NOUGHT_raising (kTup2 l_NOUGHT_raising1 y_NOUGHT_raising1 s_NOUGHT_raising1) (kTup2 l_NOUGHT_raising2 y_NOUGHT_raising2 s_NOUGHT_raising2) H, g_FIGURES := ⟨_, PySem.W.mg_of X G g_FIGURES⟩, g_MOST_FIGURES := ⟨_, PySem.W.mg_of X G g_MOST_FIGURES⟩, g_MOST_PARTS := ⟨_, PySem.W.mg_of X G g_MOST_PARTS⟩, g_LETTERS := ⟨_, PySem.W.mg_of X G g_LETTERS⟩, g_MOST_LETTERS := ⟨_, PySem.W.mg_of X G g_MOST_LETTERS⟩, g_MOST_SMOOTH := ⟨_, PySem.W.mg_of X G g_MOST_SMOOTH⟩, c_SHAPES := c_SHAPES, g_SHAPES := PySem.W.mg_of X G g_SHAPES } ⟨C7.kdS_of l_SHAPES e_SHAPES z_SHAPES⟩ F⟩
end Lw
open PySem PySem.W PyProof.Rows
set_option maxHeartbeats 0 in
theorem PySem.Challenge.cw_curveseat_k83_rows_refused_holds : PySem.Challenge.rw_curveseat_k83_rows_refused.Holds := by
  w_on; o_law; k_head; (case hw => w_witness2)
  k_fill
  refine C7.walk_c7 (l := PySem.Challenge.rw_curveseat_k83_rows_refused) (k := 13) (x := "_law_script") rfl rfl rfl ⟨rfl, by decide, by decide⟩ (fun w h Y => PySem.W.kIn_of Y) ?F
  case F =>
    intro w mg h KX G
    refine' Lw.fin KX G ?d_common_part ?d_share ?d_plus ?d_minus ?d_times ?d_under ?d_between ?d_on_way ?d_step ?d_moved ?d_next_row ?d_rows ?d_point ?d_ways ?d_sum_of ?d_polar ?d_cut ?d_stretch ?d_turned ?d_whole_points ?d_goes_left ?d_chain ?d_hull_of_whole ?d_hull ?d_least_of ?d_greatest_of ?d_box ?d_speed ?d_smoothness ?d_blend ?d_map_point ?d_mapped ?d_turn_of ?d_along ?d_steps_between ?d_ahead_of ?d_ahead_of_two ?d_ahead_of_all ?d_parts_of_two ?d_parts_of ?d_line_by ?d_common_by ?d_parting ?d_halved ?d_stretches ?d_beneath ?d_meets ?d_powers ?d_of_powers ?d_raised ?d_lowered ?d_least ?d_same ?d_show_share ?d_show_point ?d_show_curve ?d_read_whole ?d_read_share ?d_read_point ?d_read_curve ?d_read_name ?d_read_level ?d_read_word ?d_read_row ?d__law_cell_at ?d__law_stream ?d__law_share ?d__law_way ?d__law_place ?d__law_handed ?d__law_seats ?d__law_names ?d__law_share_text ?d__law_point_text ?d__law_curve_text ?d__law_filled ?d__law_no_rows ?d__law_no_words ?d__law_no_names ?d__law_strangers ?d__law_case ?d__law_refused ?d__law_state ?d_law ?a_Sieve ?pg_Sieve ?hd_Sieve ?po_Sieve ?sa_Sieve ?n_Sieve_level ?n_Sieve_ones ?n_Sieve_others ?n_Sieve_pairs ?n_Sieve_thrown ?a_Desk ?pg_Desk ?hd_Desk ?po_Desk ?sa_Desk ?n_Desk_book ?a_SeatError ?x_SeatError ?k_SeatError ?b_SeatError ?t_SeatError ?h_SeatError ?a_NoShare ?x_NoShare ?k_NoShare ?b_NoShare ?t_NoShare ?h_NoShare ?a_NoLower ?x_NoLower ?k_NoLower ?b_NoLower ?t_NoLower ?h_NoLower ?a_NoMap ?x_NoMap ?k_NoMap ?b_NoMap ?t_NoMap ?h_NoMap ?a_NoJoin ?x_NoJoin ?k_NoJoin ?b_NoJoin ?t_NoJoin ?h_NoJoin ?a_NoPlace ?x_NoPlace ?k_NoPlace ?b_NoPlace ?t_NoPlace ?h_NoPlace ?a_TooMany ?x_TooMany ?k_TooMany ?b_TooMany ?t_TooMany ?h_TooMany ?a_NoText ?x_NoText ?k_NoText ?b_NoText ?t_NoText ?h_NoText ?a_NoName ?x_NoName ?k_NoName ?b_NoName ?t_NoName ?h_NoName ?q_NoText_hg ?q_NoText_hk ?q_NoText_hs ?q_NoText_hd ?q_NoText_ha ?q_NoText_hn ?q_NoText_ht ?q_NoText_hm ?s_NoText_NoJoin ?n_NoText_NoJoin ?s_NoText_NoLower ?n_NoText_NoLower ?s_NoText_NoMap ?n_NoText_NoMap ?s_NoText_NoName ?n_NoText_NoName ?s_NoText_NoPlace ?n_NoText_NoPlace ?s_NoText_NoShare ?n_NoText_NoShare ?s_NoText_NoText ?s_NoText_SeatError ?s_NoText_TooMany ?n_NoText_TooMany ?s_NoText_ValueError ?q_NoName_hg ?q_NoName_hk ?q_NoName_hs ?q_NoName_hd ?q_NoName_ha ?q_NoName_hn ?q_NoName_ht ?q_NoName_hm ?s_NoName_NoJoin ?n_NoName_NoJoin ?s_NoName_NoLower ?n_NoName_NoLower ?s_NoName_NoMap ?n_NoName_NoMap ?s_NoName_NoName ?s_NoName_NoPlace ?n_NoName_NoPlace ?s_NoName_NoShare ?n_NoName_NoShare ?s_NoName_NoText ?n_NoName_NoText ?s_NoName_SeatError ?s_NoName_TooMany ?n_NoName_TooMany ?s_NoName_ValueError ?q_TooMany_hg ?q_TooMany_hk ?q_TooMany_hs ?q_TooMany_hd ?q_TooMany_ha ?q_TooMany_hn ?q_TooMany_ht ?q_TooMany_hm ?s_TooMany_NoJoin ?n_TooMany_NoJoin ?s_TooMany_NoLower ?n_TooMany_NoLower ?s_TooMany_NoMap ?n_TooMany_NoMap ?s_TooMany_NoName ?n_TooMany_NoName ?s_TooMany_NoPlace ?n_TooMany_NoPlace ?s_TooMany_NoShare ?n_TooMany_NoShare ?s_TooMany_NoText ?n_TooMany_NoText ?s_TooMany_SeatError ?s_TooMany_TooMany ?s_TooMany_ValueError ?q_NoLower_hg ?q_NoLower_hk ?q_NoLower_hs ?q_NoLower_hd ?q_NoLower_ha ?q_NoLower_hn ?q_NoLower_ht ?q_NoLower_hm ?s_NoLower_NoJoin ?n_NoLower_NoJoin ?s_NoLower_NoLower ?s_NoLower_NoMap ?n_NoLower_NoMap ?s_NoLower_NoName ?n_NoLower_NoName ?s_NoLower_NoPlace ?n_NoLower_NoPlace ?s_NoLower_NoShare ?n_NoLower_NoShare ?s_NoLower_NoText ?n_NoLower_NoText ?s_NoLower_SeatError ?s_NoLower_TooMany ?n_NoLower_TooMany ?s_NoLower_ValueError ?m_ValueError ?m_abs ?m_divmod ?m_enumerate ?m_int ?m_isinstance ?m_len ?m_list ?m_max ?m_min ?m_range ?m_reversed ?m_set ?m_sorted ?m_str ?m_sum ?m_tuple ?m_zip ?g_NOUGHT_curves ?l_NOUGHT_curves ?y_NOUGHT_curves ?s_NOUGHT_curves ?g_NOUGHT_partings ?l_NOUGHT_partings ?y_NOUGHT_partings ?s_NOUGHT_partings ?g_HALF ?l_HALF ?y_HALF ?s_HALF ?g_MOST_PAIRS ?g_MOST_SEATS ?g_NOUGHT_raising ?l_NOUGHT_raising ?y_NOUGHT_raising ?s_NOUGHT_raising ?l_NOUGHT_raising1 ?y_NOUGHT_raising1 ?s_NOUGHT_raising1 ?l_NOUGHT_raising2 ?y_NOUGHT_raising2 ?s_NOUGHT_raising2 ?g_FIGURES ?g_MOST_FIGURES ?g_MOST_PARTS ?g_LETTERS ?g_MOST_LETTERS ?g_MOST_SMOOTH ?g_SHAPES ?l_SHAPES ?e_SHAPES ?z_SHAPES ?d_Sieve___init__ ?d_Sieve_look ?d_Sieve_go_down ?d_Desk___init__ ?d_Desk_say ?d_Desk_put ?d_Desk_compared ?d_Desk_asked ?d_Desk_changed
    case d_common_part => (refine' C7.def_mk KX G ?a ?l ?c ?k (fun _ _ _ _ _ _ us hl => match us, hl with | [_, _], _ => rfl); (case a => k_is); (case l => k_is); (case c => k_is); (case k => k_is))
    case d_share => (refine' C7.def_mk KX G ?a ?l ?c ?k (fun _ _ _ _ _ _ us hl => match us, hl with | [_, _], _ => rfl); (case a => k_is); (case l => k_is); (case c => k_is); (case k => k_is))
    case d_plus => (refine' C7.def_mk KX G ?a ?l ?c ?k (fun _ _ _ _ _ _ us hl => match us, hl with | [_, _], _ => rfl); (case a => k_is); (case l => k_is); (case c => k_is); (case k => k_is))
    case d_minus => (refine' C7.def_mk KX G ?a ?l ?c ?k (fun _ _ _ _ _ _ us hl => match us, hl with | [_, _], _ => rfl); (case a => k_is); (case l => k_is); (case c => k_is); (case k => k_is))
    case d_times => (refine' C7.def_mk KX G ?a ?l ?c ?k (fun _ _ _ _ _ _ us hl => match us, hl with | [_, _], _ => rfl); (case a => k_is); (case l => k_is); (case c => k_is); (case k => k_is))
    case d_under => (refine' C7.def_mk KX G ?a ?l ?c ?k (fun _ _ _ _ _ _ us hl => match us, hl with | [_, _], _ => rfl); (case a => k_is); (case l => k_is); (case c => k_is); (case k => k_is))
    case d_between => (refine' C7.def_mk KX G ?a ?l ?c ?k (fun _ _ _ _ _ _ us hl => match us, hl with | [_, _, _], _ => rfl); (case a => k_is); (case l => k_is); (case c => k_is); (case k => k_is))
    case d_on_way => (refine' C7.def_mk KX G ?a ?l ?c ?k (fun _ _ _ _ _ _ us hl => match us, hl with | [_, _, _], _ => rfl); (case a => k_is); (case l => k_is); (case c => k_is); (case k => k_is))
    case d_step => (refine' C7.def_mk KX G ?a ?l ?c ?k (fun _ _ _ _ _ _ us hl => match us, hl with | [_, _], _ => rfl); (case a => k_is); (case l => k_is); (case c => k_is); (case k => k_is))
    case d_moved => (refine' C7.def_mk KX G ?a ?l ?c ?k (fun _ _ _ _ _ _ us hl => match us, hl with | [_, _, _], _ => rfl); (case a => k_is); (case l => k_is); (case c => k_is); (case k => k_is))
    case d_next_row => (refine' C7.def_mk KX G ?a ?l ?c ?k (fun _ _ _ _ _ _ us hl => match us, hl with | [_, _], _ => rfl); (case a => k_is); (case l => k_is); (case c => k_is); (case k => k_is))
    case d_rows => (refine' C7.def_mk KX G ?a ?l ?c ?k (fun _ _ _ _ _ _ us hl => match us, hl with | [_, _], _ => rfl); (case a => k_is); (case l => k_is); (case c => k_is); (case k => k_is))
    case d_point => (refine' C7.def_mk KX G ?a ?l ?c ?k (fun _ _ _ _ _ _ us hl => match us, hl with | [_, _], _ => rfl); (case a => k_is); (case l => k_is); (case c => k_is); (case k => k_is))
    case d_ways => (refine' C7.def_mk KX G ?a ?l ?c ?k (fun _ _ _ _ _ _ us hl => match us, hl with | [_], _ => rfl); (case a => k_is); (case l => k_is); (case c => k_is); (case k => k_is))
    case d_sum_of => (refine' C7.def_mk KX G ?a ?l ?c ?k (fun _ _ _ _ _ _ us hl => match us, hl with | [_, _], _ => rfl); (case a => k_is); (case l => k_is); (case c => k_is); (case k => k_is))
    case d_polar => (refine' C7.def_mk KX G ?a ?l ?c ?k (fun _ _ _ _ _ _ us hl => match us, hl with | [_, _], _ => rfl); (case a => k_is); (case l => k_is); (case c => k_is); (case k => k_is))
    case d_cut => (refine' C7.def_mk KX G ?a ?l ?c ?k (fun _ _ _ _ _ _ us hl => match us, hl with | [_, _], _ => rfl); (case a => k_is); (case l => k_is); (case c => k_is); (case k => k_is))
    case d_stretch => (refine' C7.def_mk KX G ?a ?l ?c ?k (fun _ _ _ _ _ _ us hl => match us, hl with | [_, _, _], _ => rfl); (case a => k_is); (case l => k_is); (case c => k_is); (case k => k_is))
    case d_turned => (refine' C7.def_mk KX G ?a ?l ?c ?k (fun _ _ _ _ _ _ us hl => match us, hl with | [_], _ => rfl); (case a => k_is); (case l => k_is); (case c => k_is); (case k => k_is))
    case d_whole_points => (refine' C7.def_mk KX G ?a ?l ?c ?k (fun _ _ _ _ _ _ us hl => match us, hl with | [_], _ => rfl); (case a => k_is); (case l => k_is); (case c => k_is); (case k => k_is))
    case d_goes_left => (refine' C7.def_mk KX G ?a ?l ?c ?k (fun _ _ _ _ _ _ us hl => match us, hl with | [_, _, _], _ => rfl); (case a => k_is); (case l => k_is); (case c => k_is); (case k => k_is))
    case d_chain => (refine' C7.def_mk KX G ?a ?l ?c ?k (fun _ _ _ _ _ _ us hl => match us, hl with | [_], _ => rfl); (case a => k_is); (case l => k_is); (case c => k_is); (case k => k_is))
    case d_hull_of_whole => (refine' C7.def_mk KX G ?a ?l ?c ?k (fun _ _ _ _ _ _ us hl => match us, hl with | [_], _ => rfl); (case a => k_is); (case l => k_is); (case c => k_is); (case k => k_is))
    case d_hull => (refine' C7.def_mk KX G ?a ?l ?c ?k (fun _ _ _ _ _ _ us hl => match us, hl with | [_], _ => rfl); (case a => k_is); (case l => k_is); (case c => k_is); (case k => k_is))
    case d_least_of => (refine' C7.def_mk KX G ?a ?l ?c ?k (fun _ _ _ _ _ _ us hl => match us, hl with | [_], _ => rfl); (case a => k_is); (case l => k_is); (case c => k_is); (case k => k_is))
    case d_greatest_of => (refine' C7.def_mk KX G ?a ?l ?c ?k (fun _ _ _ _ _ _ us hl => match us, hl with | [_], _ => rfl); (case a => k_is); (case l => k_is); (case c => k_is); (case k => k_is))
    case d_box => (refine' C7.def_mk KX G ?a ?l ?c ?k (fun _ _ _ _ _ _ us hl => match us, hl with | [_], _ => rfl); (case a => k_is); (case l => k_is); (case c => k_is); (case k => k_is))
    case d_speed => (refine' C7.def_mk KX G ?a ?l ?c ?k (fun _ _ _ _ _ _ us hl => match us, hl with | [_], _ => rfl); (case a => k_is); (case l => k_is); (case c => k_is); (case k => k_is))
    case d_smoothness => (refine' C7.def_mk KX G ?a ?l ?c ?k (fun _ _ _ _ _ _ us hl => match us, hl with | [_, _, _], _ => rfl); (case a => k_is); (case l => k_is); (case c => k_is); (case k => k_is))
    case d_blend => (refine' C7.def_mk KX G ?a ?l ?c ?k (fun _ _ _ _ _ _ us hl => match us, hl with | [_, _, _, _], _ => rfl); (case a => k_is); (case l => k_is); (case c => k_is); (case k => k_is))
    case d_map_point => (refine' C7.def_mk KX G ?a ?l ?c ?k (fun _ _ _ _ _ _ us hl => match us, hl with | [_, _], _ => rfl); (case a => k_is); (case l => k_is); (case c => k_is); (case k => k_is))
    case d_mapped => (refine' C7.def_mk KX G ?a ?l ?c ?k (fun _ _ _ _ _ _ us hl => match us, hl with | [_, _], _ => rfl); (case a => k_is); (case l => k_is); (case c => k_is); (case k => k_is))
    case d_turn_of => (refine' C7.def_mk KX G ?a ?l ?c ?k (fun _ _ _ _ _ _ us hl => match us, hl with | [_, _], _ => rfl); (case a => k_is); (case l => k_is); (case c => k_is); (case k => k_is))
    case d_along => (refine' C7.def_mk KX G ?a ?l ?c ?k (fun _ _ _ _ _ _ us hl => match us, hl with | [_, _], _ => rfl); (case a => k_is); (case l => k_is); (case c => k_is); (case k => k_is))
    case d_steps_between => (refine' C7.def_mk KX G ?a ?l ?c ?k (fun _ _ _ _ _ _ us hl => match us, hl with | [_, _], _ => rfl); (case a => k_is); (case l => k_is); (case c => k_is); (case k => k_is))
    case d_ahead_of => (refine' C7.def_mk KX G ?a ?l ?c ?k (fun _ _ _ _ _ _ us hl => match us, hl with | [_], _ => rfl); (case a => k_is); (case l => k_is); (case c => k_is); (case k => k_is))
    case d_ahead_of_two => (refine' C7.def_mk KX G ?a ?l ?c ?k (fun _ _ _ _ _ _ us hl => match us, hl with | [_, _], _ => rfl); (case a => k_is); (case l => k_is); (case c => k_is); (case k => k_is))
    case d_ahead_of_all => (refine' C7.def_mk KX G ?a ?l ?c ?k (fun _ _ _ _ _ _ us hl => match us, hl with | [_], _ => rfl); (case a => k_is); (case l => k_is); (case c => k_is); (case k => k_is))
    case d_parts_of_two => (refine' C7.def_mk KX G ?a ?l ?c ?k (fun _ _ _ _ _ _ us hl => match us, hl with | [_, _], _ => rfl); (case a => k_is); (case l => k_is); (case c => k_is); (case k => k_is))
    case d_parts_of => (refine' C7.def_mk KX G ?a ?l ?c ?k (fun _ _ _ _ _ _ us hl => match us, hl with | [_], _ => rfl); (case a => k_is); (case l => k_is); (case c => k_is); (case k => k_is))
    case d_line_by => (refine' C7.def_mk KX G ?a ?l ?c ?k (fun _ _ _ _ _ _ us hl => match us, hl with | [_, _, _, _], _ => rfl); (case a => k_is); (case l => k_is); (case c => k_is); (case k => k_is))
    case d_common_by => (refine' C7.def_mk KX G ?a ?l ?c ?k (fun _ _ _ _ _ _ us hl => match us, hl with | [_, _, _, _], _ => rfl); (case a => k_is); (case l => k_is); (case c => k_is); (case k => k_is))
    case d_parting => (refine' C7.def_mk KX G ?a ?l ?c ?k (fun _ _ _ _ _ _ us hl => match us, hl with | [_, _], _ => rfl); (case a => k_is); (case l => k_is); (case c => k_is); (case k => k_is))
    case d_halved => (refine' C7.def_mk KX G ?a ?l ?c ?k (fun _ _ _ _ _ _ us hl => match us, hl with | [_], _ => rfl); (case a => k_is); (case l => k_is); (case c => k_is); (case k => k_is))
    case d_stretches => (refine' C7.def_mk KX G ?a ?l ?c ?k (fun _ _ _ _ _ _ us hl => match us, hl with | [_, _], _ => rfl); (case a => k_is); (case l => k_is); (case c => k_is); (case k => k_is))
    case d_beneath => (refine' C7.def_mk KX G ?a ?l ?c ?k (fun _ _ _ _ _ _ us hl => match us, hl with | [_], _ => rfl); (case a => k_is); (case l => k_is); (case c => k_is); (case k => k_is))
    case d_meets => (refine' C7.def_mk KX G ?a ?l ?c ?k (fun _ _ _ _ _ _ us hl => match us, hl with | [_, _, _], _ => rfl); (case a => k_is); (case l => k_is); (case c => k_is); (case k => k_is))
    case d_powers => (refine' C7.def_mk KX G ?a ?l ?c ?k (fun _ _ _ _ _ _ us hl => match us, hl with | [_], _ => rfl); (case a => k_is); (case l => k_is); (case c => k_is); (case k => k_is))
    case d_of_powers => (refine' C7.def_mk KX G ?a ?l ?c ?k (fun _ _ _ _ _ _ us hl => match us, hl with | [_], _ => rfl); (case a => k_is); (case l => k_is); (case c => k_is); (case k => k_is))
    case d_raised => (refine' C7.def_mk KX G ?a ?l ?c ?k (fun _ _ _ _ _ _ us hl => match us, hl with | [_], _ => rfl); (case a => k_is); (case l => k_is); (case c => k_is); (case k => k_is))
    case d_lowered => (refine' C7.def_mk KX G ?a ?l ?c ?k (fun _ _ _ _ _ _ us hl => match us, hl with | [_], _ => rfl); (case a => k_is); (case l => k_is); (case c => k_is); (case k => k_is))
    case d_least => (refine' C7.def_mk KX G ?a ?l ?c ?k (fun _ _ _ _ _ _ us hl => match us, hl with | [_], _ => rfl); (case a => k_is); (case l => k_is); (case c => k_is); (case k => k_is))
    case d_same => (refine' C7.def_mk KX G ?a ?l ?c ?k (fun _ _ _ _ _ _ us hl => match us, hl with | [_, _], _ => rfl); (case a => k_is); (case l => k_is); (case c => k_is); (case k => k_is))
    case d_show_share => (refine' C7.def_mk KX G ?a ?l ?c ?k (fun _ _ _ _ _ _ us hl => match us, hl with | [_], _ => rfl); (case a => k_is); (case l => k_is); (case c => k_is); (case k => k_is))
    case d_show_point => (refine' C7.def_mk KX G ?a ?l ?c ?k (fun _ _ _ _ _ _ us hl => match us, hl with | [_], _ => rfl); (case a => k_is); (case l => k_is); (case c => k_is); (case k => k_is))
    case d_show_curve => (refine' C7.def_mk KX G ?a ?l ?c ?k (fun _ _ _ _ _ _ us hl => match us, hl with | [_], _ => rfl); (case a => k_is); (case l => k_is); (case c => k_is); (case k => k_is))
    case d_read_whole => (refine' C7.def_mk KX G ?a ?l ?c ?k (fun _ _ _ _ _ _ us hl => match us, hl with | [_], _ => rfl); (case a => k_is); (case l => k_is); (case c => k_is); (case k => k_is))
    case d_read_share => (refine' C7.def_mk KX G ?a ?l ?c ?k (fun _ _ _ _ _ _ us hl => match us, hl with | [_], _ => rfl); (case a => k_is); (case l => k_is); (case c => k_is); (case k => k_is))
    case d_read_point => (refine' C7.def_mk KX G ?a ?l ?c ?k (fun _ _ _ _ _ _ us hl => match us, hl with | [_], _ => rfl); (case a => k_is); (case l => k_is); (case c => k_is); (case k => k_is))
    case d_read_curve => (refine' C7.def_mk KX G ?a ?l ?c ?k (fun _ _ _ _ _ _ us hl => match us, hl with | [_], _ => rfl); (case a => k_is); (case l => k_is); (case c => k_is); (case k => k_is))
    case d_read_name => (refine' C7.def_mk KX G ?a ?l ?c ?k (fun _ _ _ _ _ _ us hl => match us, hl with | [_], _ => rfl); (case a => k_is); (case l => k_is); (case c => k_is); (case k => k_is))
    case d_read_level => (refine' C7.def_mk KX G ?a ?l ?c ?k (fun _ _ _ _ _ _ us hl => match us, hl with | [_], _ => rfl); (case a => k_is); (case l => k_is); (case c => k_is); (case k => k_is))
    case d_read_word => (refine' C7.def_mk KX G ?a ?l ?c ?k (fun _ _ _ _ _ _ us hl => match us, hl with | [_, _], _ => rfl); (case a => k_is); (case l => k_is); (case c => k_is); (case k => k_is))
    case d_read_row => (refine' C7.def_mk KX G ?a ?l ?c ?k (fun _ _ _ _ _ _ us hl => match us, hl with | [_], _ => rfl); (case a => k_is); (case l => k_is); (case c => k_is); (case k => k_is))
    case d__law_cell_at => (refine' C7.def_mk KX G ?a ?l ?c ?k (fun _ _ _ _ _ _ us hl => match us, hl with | [_, _], _ => rfl); (case a => k_is); (case l => k_is); (case c => k_is); (case k => k_is))
    case d__law_stream => (refine' C7.def_mk KX G ?a ?l ?c ?k (fun _ _ _ _ _ _ us hl => match us, hl with | [_, _], _ => rfl); (case a => k_is); (case l => k_is); (case c => k_is); (case k => k_is))
    case d__law_share => (refine' C7.def_mk KX G ?a ?l ?c ?k (fun _ _ _ _ _ _ us hl => match us, hl with | [_, _], _ => rfl); (case a => k_is); (case l => k_is); (case c => k_is); (case k => k_is))
    case d__law_way => (refine' C7.def_mk KX G ?a ?l ?c ?k (fun _ _ _ _ _ _ us hl => match us, hl with | [_], _ => rfl); (case a => k_is); (case l => k_is); (case c => k_is); (case k => k_is))
    case d__law_place => (refine' C7.def_mk KX G ?a ?l ?c ?k (fun _ _ _ _ _ _ us hl => match us, hl with | [_, _], _ => rfl); (case a => k_is); (case l => k_is); (case c => k_is); (case k => k_is))
    case d__law_handed => (refine' C7.def_mk KX G ?a ?l ?c ?k (fun _ _ _ _ _ _ us hl => match us, hl with | [_, _], _ => rfl); (case a => k_is); (case l => k_is); (case c => k_is); (case k => k_is))
    case d__law_seats => (refine' C7.def_mk KX G ?a ?l ?c ?k (fun _ _ _ _ _ _ us hl => match us, hl with | [_, _, _], _ => rfl); (case a => k_is); (case l => k_is); (case c => k_is); (case k => k_is))
    case d__law_names => (refine' C7.def_mk KX G ?a ?l ?c ?k (fun _ _ _ _ _ _ us hl => match us, hl with | [_, _], _ => rfl); (case a => k_is); (case l => k_is); (case c => k_is); (case k => k_is))
    case d__law_share_text => (refine' C7.def_mk KX G ?a ?l ?c ?k (fun _ _ _ _ _ _ us hl => match us, hl with | [_], _ => rfl); (case a => k_is); (case l => k_is); (case c => k_is); (case k => k_is))
    case d__law_point_text => (refine' C7.def_mk KX G ?a ?l ?c ?k (fun _ _ _ _ _ _ us hl => match us, hl with | [_], _ => rfl); (case a => k_is); (case l => k_is); (case c => k_is); (case k => k_is))
    case d__law_curve_text => (refine' C7.def_mk KX G ?a ?l ?c ?k (fun _ _ _ _ _ _ us hl => match us, hl with | [_], _ => rfl); (case a => k_is); (case l => k_is); (case c => k_is); (case k => k_is))
    case d__law_filled => (refine' C7.def_mk KX G ?a ?l ?c ?k (fun _ _ _ _ _ _ us hl => match us, hl with | [_, _, _, _], _ => rfl); (case a => k_is); (case l => k_is); (case c => k_is); (case k => k_is))
    case d__law_no_rows => (refine' C7.def_mk KX G ?a ?l ?c ?k (fun _ _ _ _ _ _ us hl => match us, hl with | [_, _], _ => rfl); (case a => k_is); (case l => k_is); (case c => k_is); (case k => k_is))
    case d__law_no_words => (refine' C7.def_mk KX G ?a ?l ?c ?k (fun _ _ _ _ _ _ us hl => match us, hl with | [_, _, _], _ => rfl); (case a => k_is); (case l => k_is); (case c => k_is); (case k => k_is))
    case d__law_no_names => (refine' C7.def_mk KX G ?a ?l ?c ?k (fun _ _ _ _ _ _ us hl => match us, hl with | [_, _, _], _ => rfl); (case a => k_is); (case l => k_is); (case c => k_is); (case k => k_is))
    case d__law_strangers => (refine' C7.def_mk KX G ?a ?l ?c ?k (fun _ _ _ _ _ _ us hl => match us, hl with | [_, _], _ => rfl); (case a => k_is); (case l => k_is); (case c => k_is); (case k => k_is))
    case d__law_case => (refine' C7.def_mk KX G ?a ?l ?c ?k (fun _ _ _ _ _ _ us hl => match us, hl with | [_, _, _], _ => rfl); (case a => k_is); (case l => k_is); (case c => k_is); (case k => k_is))
    case d__law_refused => (refine' C7.def_mk KX G ?a ?l ?c ?k (fun _ _ _ _ _ _ us hl => match us, hl with | [_, _, _], _ => rfl); (case a => k_is); (case l => k_is); (case c => k_is); (case k => k_is))
    case d__law_state => (refine' C7.def_mk KX G ?a ?l ?c ?k (fun _ _ _ _ _ _ us hl => match us, hl with | [_, _], _ => rfl); (case a => k_is); (case l => k_is); (case c => k_is); (case k => k_is))
    case d_law => (refine' C7.law_mk KX G ?a ?l ?c ?k (fun _ _ _ _ _ _ v => rfl); (case a => k_is); (case l => k_is); (case c => k_is); (case k => k_is))
    case a_Sieve => k_is
    case pg_Sieve => k_is
    case hd_Sieve => k_is
    case po_Sieve => k_is
    case sa_Sieve => k_is
    case n_Sieve_level => k_is
    case n_Sieve_ones => k_is
    case n_Sieve_others => k_is
    case n_Sieve_pairs => k_is
    case n_Sieve_thrown => k_is
    case a_Desk => k_is
    case pg_Desk => k_is
    case hd_Desk => k_is
    case po_Desk => k_is
    case sa_Desk => k_is
    case n_Desk_book => k_is
    case a_SeatError => k_is
    case x_SeatError => k_exc
    case k_SeatError => k_is
    case b_SeatError => k_is
    case t_SeatError => k_is
    case h_SeatError => k_is
    case a_NoShare => k_is
    case x_NoShare => k_exc
    case k_NoShare => k_is
    case b_NoShare => k_is
    case t_NoShare => k_is
    case h_NoShare => k_is
    case a_NoLower => k_is
    case x_NoLower => k_exc
    case k_NoLower => k_is
    case b_NoLower => k_is
    case t_NoLower => k_is
    case h_NoLower => k_is
    case a_NoMap => k_is
    case x_NoMap => k_exc
    case k_NoMap => k_is
    case b_NoMap => k_is
    case t_NoMap => k_is
    case h_NoMap => k_is
    case a_NoJoin => k_is
    case x_NoJoin => k_exc
    case k_NoJoin => k_is
    case b_NoJoin => k_is
    case t_NoJoin => k_is
    case h_NoJoin => k_is
    case a_NoPlace => k_is
    case x_NoPlace => k_exc
    case k_NoPlace => k_is
    case b_NoPlace => k_is
    case t_NoPlace => k_is
    case h_NoPlace => k_is
    case a_TooMany => k_is
    case x_TooMany => k_exc
    case k_TooMany => k_is
    case b_TooMany => k_is
    case t_TooMany => k_is
    case h_TooMany => k_is
    case a_NoText => k_is
    case x_NoText => k_exc
    case k_NoText => k_is
    case b_NoText => k_is
    case t_NoText => k_is
    case h_NoText => k_is
    case a_NoName => k_is
    case x_NoName => k_exc
    case k_NoName => k_is
    case b_NoName => k_is
    case t_NoName => k_is
    case h_NoName => k_is
    case q_NoText_hg => k_is
    case q_NoText_hk => k_is
    case q_NoText_hs => k_is
    case q_NoText_hd => k_is
    case q_NoText_ha => k_is
    case q_NoText_hn => k_is
    case q_NoText_ht => k_is
    case q_NoText_hm => k_is
    case s_NoText_NoJoin => k_is
    case n_NoText_NoJoin => rfl
    case s_NoText_NoLower => k_is
    case n_NoText_NoLower => rfl
    case s_NoText_NoMap => k_is
    case n_NoText_NoMap => rfl
    case s_NoText_NoName => k_is
    case n_NoText_NoName => rfl
    case s_NoText_NoPlace => k_is
    case n_NoText_NoPlace => rfl
    case s_NoText_NoShare => k_is
    case n_NoText_NoShare => rfl
    case s_NoText_NoText => k_is
    case s_NoText_SeatError => k_is
    case s_NoText_TooMany => k_is
    case n_NoText_TooMany => rfl
    case s_NoText_ValueError => k_is
    case q_NoName_hg => k_is
    case q_NoName_hk => k_is
    case q_NoName_hs => k_is
    case q_NoName_hd => k_is
    case q_NoName_ha => k_is
    case q_NoName_hn => k_is
    case q_NoName_ht => k_is
    case q_NoName_hm => k_is
    case s_NoName_NoJoin => k_is
    case n_NoName_NoJoin => rfl
    case s_NoName_NoLower => k_is
    case n_NoName_NoLower => rfl
    case s_NoName_NoMap => k_is
    case n_NoName_NoMap => rfl
    case s_NoName_NoName => k_is
    case s_NoName_NoPlace => k_is
    case n_NoName_NoPlace => rfl
    case s_NoName_NoShare => k_is
    case n_NoName_NoShare => rfl
    case s_NoName_NoText => k_is
    case n_NoName_NoText => rfl
    case s_NoName_SeatError => k_is
    case s_NoName_TooMany => k_is
    case n_NoName_TooMany => rfl
    case s_NoName_ValueError => k_is
    case q_TooMany_hg => k_is
    case q_TooMany_hk => k_is
    case q_TooMany_hs => k_is
    case q_TooMany_hd => k_is
    case q_TooMany_ha => k_is
    case q_TooMany_hn => k_is
    case q_TooMany_ht => k_is
    case q_TooMany_hm => k_is
    case s_TooMany_NoJoin => k_is
    case n_TooMany_NoJoin => rfl
    case s_TooMany_NoLower => k_is
    case n_TooMany_NoLower => rfl
    case s_TooMany_NoMap => k_is
    case n_TooMany_NoMap => rfl
    case s_TooMany_NoName => k_is
    case n_TooMany_NoName => rfl
    case s_TooMany_NoPlace => k_is
    case n_TooMany_NoPlace => rfl
    case s_TooMany_NoShare => k_is
    case n_TooMany_NoShare => rfl
    case s_TooMany_NoText => k_is
    case n_TooMany_NoText => rfl
    case s_TooMany_SeatError => k_is
    case s_TooMany_TooMany => k_is
    case s_TooMany_ValueError => k_is
    case q_NoLower_hg => k_is
    case q_NoLower_hk => k_is
    case q_NoLower_hs => k_is
    case q_NoLower_hd => k_is
    case q_NoLower_ha => k_is
    case q_NoLower_hn => k_is
    case q_NoLower_ht => k_is
    case q_NoLower_hm => k_is
    case s_NoLower_NoJoin => k_is
    case n_NoLower_NoJoin => rfl
    case s_NoLower_NoLower => k_is
    case s_NoLower_NoMap => k_is
    case n_NoLower_NoMap => rfl
    case s_NoLower_NoName => k_is
    case n_NoLower_NoName => rfl
    case s_NoLower_NoPlace => k_is
    case n_NoLower_NoPlace => rfl
    case s_NoLower_NoShare => k_is
    case n_NoLower_NoShare => rfl
    case s_NoLower_NoText => k_is
    case n_NoLower_NoText => rfl
    case s_NoLower_SeatError => k_is
    case s_NoLower_TooMany => k_is
    case n_NoLower_TooMany => rfl
    case s_NoLower_ValueError => k_is
    case m_ValueError => k_is
    case m_abs => k_is
    case m_divmod => k_is
    case m_enumerate => k_is
    case m_int => k_is
    case m_isinstance => k_is
    case m_len => k_is
    case m_list => k_is
    case m_max => k_is
    case m_min => k_is
    case m_range => k_is
    case m_reversed => k_is
    case m_set => k_is
    case m_sorted => k_is
    case m_str => k_is
    case m_sum => k_is
    case m_tuple => k_is
    case m_zip => k_is
    case g_NOUGHT_curves => k_is
    case l_NOUGHT_curves => k_is
    case y_NOUGHT_curves => rfl
    case s_NOUGHT_curves => rfl
    case g_NOUGHT_partings => k_is
    case l_NOUGHT_partings => k_is
    case y_NOUGHT_partings => rfl
    case s_NOUGHT_partings => rfl
    case g_HALF => k_is
    case l_HALF => k_is
    case y_HALF => rfl
    case s_HALF => rfl
    case g_MOST_PAIRS => k_is
    case g_MOST_SEATS => k_is
    case g_NOUGHT_raising => k_is
    case l_NOUGHT_raising => k_is
    case y_NOUGHT_raising => rfl
    case s_NOUGHT_raising => rfl
    case l_NOUGHT_raising1 => k_is
    case y_NOUGHT_raising1 => rfl
    case s_NOUGHT_raising1 => rfl
    case l_NOUGHT_raising2 => k_is
    case y_NOUGHT_raising2 => rfl
    case s_NOUGHT_raising2 => rfl
    case g_FIGURES => k_is
    case g_MOST_FIGURES => k_is
    case g_MOST_PARTS => k_is
    case g_LETTERS => k_is
    case g_MOST_LETTERS => k_is
    case g_MOST_SMOOTH => k_is
    case g_SHAPES => k_is
    case l_SHAPES => k_is
    case e_SHAPES => exact C7.entT_cons ⟨_, _, rfl, rfl, rfl⟩ (C7.entT_cons ⟨_, _, rfl, rfl, rfl⟩ (C7.entT_cons ⟨_, _, rfl, rfl, rfl⟩ (C7.entT_cons ⟨_, _, rfl, rfl, rfl⟩ (C7.entT_cons ⟨_, _, rfl, rfl, rfl⟩ (C7.entT_cons ⟨_, _, rfl, rfl, rfl⟩ (C7.entT_cons ⟨_, _, rfl, rfl, rfl⟩ (C7.entT_cons ⟨_, _, rfl, rfl, rfl⟩ (C7.entT_cons ⟨_, _, rfl, rfl, rfl⟩ (C7.entT_cons ⟨_, _, rfl, rfl, rfl⟩ (C7.entT_cons ⟨_, _, rfl, rfl, rfl⟩ (C7.entT_cons ⟨_, _, rfl, rfl, rfl⟩ (C7.entT_cons ⟨_, _, rfl, rfl, rfl⟩ (C7.entT_cons ⟨_, _, rfl, rfl, rfl⟩ (C7.entT_cons ⟨_, _, rfl, rfl, rfl⟩ (C7.entT_cons ⟨_, _, rfl, rfl, rfl⟩ (C7.entT_cons ⟨_, _, rfl, rfl, rfl⟩ (C7.entT_nil)))))))))))))))))
    case z_SHAPES => rfl
    case d_Sieve___init__ => (refine' C7.inf_mk ?mk ?kc ?a ?i ?l ?c ?k (fun _ _ _ _ _ _ us hl => match us, hl with | [_, _, _], _ => rfl); (case mk => k_is); (case kc => k_is); (case a => k_is); (case i => k_is); (case l => k_is); (case c => k_is); (case k => k_is))
    case d_Sieve_look => (refine' C7.mtf_mk ?a ?i ?l ?c ?k (fun _ _ _ _ _ _ us hl => match us, hl with | [_, _], _ => rfl); (case a => k_is); (case i => k_is); (case l => k_is); (case c => k_is); (case k => k_is))
    case d_Sieve_go_down => (refine' C7.mtf_mk ?a ?i ?l ?c ?k (fun _ _ _ _ _ _ us hl => match us, hl with | [_], _ => rfl); (case a => k_is); (case i => k_is); (case l => k_is); (case c => k_is); (case k => k_is))
    case d_Desk___init__ => (refine' C7.inf_mk ?mk ?kc ?a ?i ?l ?c ?k (fun _ _ _ _ _ _ us hl => match us, hl with | [_], _ => rfl); (case mk => k_is); (case kc => k_is); (case a => k_is); (case i => k_is); (case l => k_is); (case c => k_is); (case k => k_is))
    case d_Desk_say => (refine' C7.mtf_mk ?a ?i ?l ?c ?k (fun _ _ _ _ _ _ us hl => match us, hl with | [_, _], _ => rfl); (case a => k_is); (case i => k_is); (case l => k_is); (case c => k_is); (case k => k_is))
    case d_Desk_put => (refine' C7.mtf_mk ?a ?i ?l ?c ?k (fun _ _ _ _ _ _ us hl => match us, hl with | [_, _, _], _ => rfl); (case a => k_is); (case i => k_is); (case l => k_is); (case c => k_is); (case k => k_is))
    case d_Desk_compared => (refine' C7.mtf_mk ?a ?i ?l ?c ?k (fun _ _ _ _ _ _ us hl => match us, hl with | [_, _, _, _, _], _ => rfl); (case a => k_is); (case i => k_is); (case l => k_is); (case c => k_is); (case k => k_is))
    case d_Desk_asked => (refine' C7.mtf_mk ?a ?i ?l ?c ?k (fun _ _ _ _ _ _ us hl => match us, hl with | [_, _, _, _], _ => rfl); (case a => k_is); (case i => k_is); (case l => k_is); (case c => k_is); (case k => k_is))
    case d_Desk_changed => (refine' C7.mtf_mk ?a ?i ?l ?c ?k (fun _ _ _ _ _ _ us hl => match us, hl with | [_, _, _, _], _ => rfl); (case a => k_is); (case i => k_is); (case l => k_is); (case c => k_is); (case k => k_is))
