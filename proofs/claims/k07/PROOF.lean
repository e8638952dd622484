import PyProof.Rows.All
import Wide.All
import OpenK.AllK
import Wide.FinOn
import HandS.ForMost
import HandS.ForExc
import HandS.ExcInit
import HandS.Conv
import HandS.Deep
import HandS.TupAny
import HandS.SortInts
import HandS.Style
import HandS.IsInst
import HandS.SetFor
import HandS.Strs
import KE.KDictKeyed
import HandS.Lambda
import HandS.EndOwn
import KE.DataMinMax
import HandS.Remove
import HandS.Small
import HandS.Text
import HandS.ExcIs
import HandS.ExcField
import KE.KExcIs
import HandS.TupMul
import HandS.Iter
import KE.SortData
import KE.KDictDisplayH
import KE.KDictSum
import HandS.List
import PySem.Challenge.RW_aisleshift_k07_plans_played
set_option Elab.async false
set_option linter.all false
set_option maxRecDepth 100000
set_option maxHeartbeats 4000000
/-! DL: values as data. An expression's reading over data: what is made is told whole, the heap is told only where it changes. -/
namespace DL
open PySem PySem.Spec PyProof.Rows L2

/-- data -/
inductive D where
  | non | bl (b : Bool) | int (i : Int) | str (x : Str)
  | tup (xs : List D) | lst (xs : List D) | dk (kvs : List (Str × D))
  | ins (C : Addr) (fs : List (Str × D)) | scr (ns : List Int) | ref (a : Addr)
  | dn (hs : NestedKey → Int) (kvs : List (NestedKey × D))

/-! ### keys that are tuples -/
mutual
def dOf : NestedKey → D
  | .none => .non
  | .num i => .int i
  | .text x => .str x
  | .tup ks => .tup (dOfs ks)
def dOfs : List NestedKey → List D
  | [] => []
  | k :: ks => dOf k :: dOfs ks
end
/-- a dict whose keys are tuples: the hash, the keys, where they stand, the values -/
def dnO (hs : NestedKey → Int) (a : Addr) (xs : List (NestedKey × Addr × V)) : HO := .ext fun h => (a == sysModules) = false ∧ xs.length ≤ sizeLine ∧ ∃ ys : List (NestedKey × Addr × Value), Paired (fun x y => x.1 = y.1 ∧ x.2.1 = y.2.1 ∧ RelV x.2.2 y.2.2) xs ys ∧
  (∃ o es ep, h.get? a = some o ∧ o.ExactDict ∧ o.data = .dict es ep ∧ es.toList = ys.map (fun y => ⟨hs y.1, .ref y.2.1, y.2.2⟩)) ∧ (ys.map (·.1)).Nodup
mutual
inductive Rep (K : PySem.W.Frag) (I : Hp) : D → V → Prop
  | non : Rep K I .non .non
  | bl (b : Bool) : Rep K I (.bl b) (.bl b)
  | int (i : Int) : Rep K I (.int i) (.int i)
  | str (x : Str) : Rep K I (.str x) (.str x)
  | tup {a : Addr} {vs : List V} {ds : List D} : SqT K I a vs → RepL K I ds vs → Rep K I (.tup ds) (.ref a)
  | lst {a : Addr} {vs : List V} {ds : List D} : I a = some (.lst vs) → RepL K I ds vs → Rep K I (.lst ds) (.ref a)
  | dk {a : Addr} {kvs : List (Key × V)} {kds : List (Str × D)} : I a = some (.dK kvs) → RepK K I kds kvs → Rep K I (.dk kds) (.ref a)
  | ins {a C dx : Addr} {fv : List (Str × V)} {fs : List (Str × D)} : I a = some (.ins C dx fv) → RepG K I fs fv → Rep K I (.ins C fs) (.ref a)
  | scr {a : Addr} {ns : List Int} : SqL K I a (ns.map V.int) → Rep K I (.scr ns) (.ref a)
  | ref (a : Addr) : Rep K I (.ref a) (.ref a)
  | dn {a : Addr} {o : Obj} {hs : NestedKey → Int} {xs : List (NestedKey × Addr × V)} {kvs : List (NestedKey × D)} : I a = some (.frz o (dnO hs a xs)) → RepN K I kvs xs → Rep K I (.dn hs kvs) (.ref a)
inductive RepL (K : PySem.W.Frag) (I : Hp) : List D → List V → Prop
  | nil : RepL K I [] []
  | cons {d : D} {v : V} {ds : List D} {vs : List V} : Rep K I d v → RepL K I ds vs → RepL K I (d :: ds) (v :: vs)
inductive RepG (K : PySem.W.Frag) (I : Hp) : List (Str × D) → List (Str × V) → Prop
  | nil : RepG K I [] []
  | cons {f : Str} {d : D} {v : V} {ds : List (Str × D)} {vs : List (Str × V)} : Rep K I d v → RepG K I ds vs → RepG K I ((f, d) :: ds) ((f, v) :: vs)
inductive RepK (K : PySem.W.Frag) (I : Hp) : List (Str × D) → List (Key × V) → Prop
  | nil : RepK K I [] []
  | cons {f : Str} {d : D} {v : V} {ds : List (Str × D)} {vs : List (Key × V)} : Rep K I d v → RepK K I ds vs → RepK K I ((f, d) :: ds) ((Sum.inr f, v) :: vs)
inductive RepN (K : PySem.W.Frag) (I : Hp) : List (NestedKey × D) → List (NestedKey × Addr × V) → Prop
  | nil : RepN K I [] []
  | cons {k : NestedKey} {b : Addr} {d : D} {v : V} {ds : List (NestedKey × D)} {xs : List (NestedKey × Addr × V)} : k.depth ≤ 8 → Rep K I (dOf k) (.ref b) → Rep K I d v → RepN K I ds xs → RepN K I ((k, d) :: ds) ((k, b, v) :: xs)
end

theorem sqL_same {K : PySem.W.Frag} {H H' : Hp} {a : Addr} {xs : List V} (e : Same H H') (h : SqL K H a xs) : SqL K H' a xs := e.seq h
theorem sqT_same {K : PySem.W.Frag} {H H' : Hp} {a : Addr} {xs : List V} (e : Same H H') (h : SqT K H a xs) : SqT K H' a xs := by
  rcases h with (h | ⟨o, h⟩) | h
  · exact .inl (.inl (e _ _ h))
  · exact .inl (.inr ⟨o, e _ _ h⟩)
  · exact .inr h

section
variable {K : PySem.W.Frag} {I I' : Hp}
mutual
theorem Rep.mono (e : Same I I') : ∀ {d : D} {v : V}, Rep K I d v → Rep K I' d v
  | _, _, .non => .non
  | _, _, .bl b => .bl b
  | _, _, .int b => .int b
  | _, _, .str b => .str b
  | _, _, .tup h r => .tup (sqT_same e h) (RepL.mono e r)
  | _, _, .lst h r => .lst (e _ _ h) (RepL.mono e r)
  | _, _, .dk h r => .dk (e _ _ h) (RepK.mono e r)
  | _, _, .ins h r => .ins (e _ _ h) (RepG.mono e r)
  | _, _, .scr h => .scr (sqL_same e h)
  | _, _, .ref a => .ref a
  | _, _, .dn h r => .dn (e _ _ h) (RepN.mono e r)
theorem RepL.mono (e : Same I I') : ∀ {d : List D} {v : List V}, RepL K I d v → RepL K I' d v
  | _, _, .nil => .nil
  | _, _, .cons h r => .cons (Rep.mono e h) (RepL.mono e r)
theorem RepG.mono (e : Same I I') : ∀ {d : List (Str × D)} {v : List (Str × V)}, RepG K I d v → RepG K I' d v
  | _, _, .nil => .nil
  | _, _, .cons h r => .cons (Rep.mono e h) (RepG.mono e r)
theorem RepK.mono (e : Same I I') : ∀ {d : List (Str × D)} {v : List (Key × V)}, RepK K I d v → RepK K I' d v
  | _, _, .nil => .nil
  | _, _, .cons h r => .cons (Rep.mono e h) (RepK.mono e r)
theorem RepN.mono (e : Same I I') : ∀ {d : List (NestedKey × D)} {v : List (NestedKey × Addr × V)}, RepN K I d v → RepN K I' d v
  | _, _, .nil => .nil
  | _, _, .cons h1 h2 h3 r => .cons h1 (Rep.mono e h2) (Rep.mono e h3) (RepN.mono e r)
end
theorem RepL.length : ∀ {ds : List D} {vs : List V}, RepL K I ds vs → ds.length = vs.length
  | _, _, .nil => rfl
  | _, _, .cons _ r => congrArg (· + 1) (RepL.length r)
theorem RepL.get : ∀ {ds : List D} {vs : List V} {i : Nat} {d : D}, RepL K I ds vs → ds[i]? = some d → ∃ v, vs[i]? = some v ∧ Rep K I d v
  | _, _, _, _, .nil, e => by simp at e
  | _, _, 0, _, .cons r _, e => by simp at e; subst e; exact ⟨_, rfl, r⟩
  | _, _, i + 1, _, .cons _ r, e => by
    obtain ⟨v, h1, h2⟩ := RepL.get (i := i) r (by simpa using e)
    exact ⟨v, by simpa using h1, h2⟩
theorem RepL.get' : ∀ {ds : List D} {vs : List V} {i : Nat} {v : V}, RepL K I ds vs → vs[i]? = some v → ∃ d, ds[i]? = some d ∧ Rep K I d v
  | _, _, _, _, .nil, e => by simp at e
  | _, _, 0, _, .cons r _, e => by simp at e; subst e; exact ⟨_, rfl, r⟩
  | _, _, i + 1, _, .cons _ r, e => by
    obtain ⟨v, h1, h2⟩ := RepL.get' (i := i) r (by simpa using e)
    exact ⟨v, by simpa using h1, h2⟩
theorem RepL.append : ∀ {ds es : List D} {vs us : List V}, RepL K I ds vs → RepL K I es us → RepL K I (ds ++ es) (vs ++ us)
  | _, _, _, _, .nil, s => s
  | _, _, _, _, .cons r t, s => .cons r (RepL.append t s)
theorem RepL.take : ∀ {ds : List D} {vs : List V} (n : Nat), RepL K I ds vs → RepL K I (ds.take n) (vs.take n)
  | _, _, 0, _ => by simp; exact .nil
  | _, _, _ + 1, .nil => by simp; exact .nil
  | _, _, n + 1, .cons r t => by simp only [List.take_succ_cons]; exact .cons r (RepL.take n t)
theorem RepL.drop : ∀ {ds : List D} {vs : List V} (n : Nat), RepL K I ds vs → RepL K I (ds.drop n) (vs.drop n)
  | _, _, 0, r => r
  | _, _, _ + 1, .nil => .nil
  | _, _, n + 1, .cons _ t => by simp only [List.drop_succ_cons]; exact RepL.drop n t
theorem RepL.set {d : D} {v : V} (r : Rep K I d v) : ∀ {ds : List D} {vs : List V} (i : Nat), RepL K I ds vs → RepL K I (ds.set i d) (vs.set i v)
  | _, _, _, .nil => .nil
  | _, _, 0, .cons _ t => .cons r t
  | _, _, i + 1, .cons q t => .cons q (RepL.set r i t)
theorem RepL.eraseIdx : ∀ {ds : List D} {vs : List V} (i : Nat), RepL K I ds vs → RepL K I (ds.eraseIdx i) (vs.eraseIdx i)
  | _, _, _, .nil => .nil
  | _, _, 0, .cons _ t => t
  | _, _, i + 1, .cons q t => .cons q (RepL.eraseIdx i t)
theorem RepL.replicate {ds : List D} {vs : List V} (r : RepL K I ds vs) : ∀ n : Nat, RepL K I (List.replicate n ds).flatten (List.replicate n vs).flatten
  | 0 => .nil
  | n + 1 => by
    rw [List.replicate_succ, List.replicate_succ, List.flatten_cons, List.flatten_cons]
    exact r.append (RepL.replicate r n)
theorem RepL.reverse : ∀ {ds : List D} {vs : List V}, RepL K I ds vs → RepL K I ds.reverse vs.reverse
  | _, _, .nil => .nil
  | _, _, .cons r t => by
    rw [List.reverse_cons, List.reverse_cons]
    exact (RepL.reverse t).append (.cons r .nil)
theorem RepL.ints : ∀ (ns : List Int), RepL K I (ns.map D.int) (ns.map V.int)
  | [] => .nil
  | n :: ns => .cons (.int n) (RepL.ints ns)
theorem RepL.ints_of : ∀ {ns : List Int} {vs : List V}, RepL K I (ns.map D.int) vs → vs = ns.map V.int
  | [], _, .nil => rfl
  | n :: ns, _, .cons r t => by
    cases r
    rw [RepL.ints_of t]
    rfl
theorem RepL.strs_of : ∀ {ns : List Str} {vs : List V}, RepL K I (ns.map D.str) vs → vs = ns.map V.str
  | [], _, .nil => rfl
  | n :: ns, _, .cons r t => by
    cases r
    rw [RepL.strs_of t]
    rfl
theorem RepL.strs : ∀ (ns : List Str), RepL K I (ns.map D.str) (ns.map V.str)
  | [] => .nil
  | n :: ns => .cons (.str n) (RepL.strs ns)
theorem RepG.length : ∀ {ds : List (Str × D)} {vs : List (Str × V)}, RepG K I ds vs → ds.length = vs.length
  | _, _, .nil => rfl
  | _, _, .cons _ r => congrArg (· + 1) (RepG.length r)
theorem RepG.lookup {f : Str} {d : D} : ∀ {ds : List (Str × D)} {vs : List (Str × V)}, RepG K I ds vs → ds.lookup f = some d → ∃ v, vs.lookup f = some v ∧ Rep K I d v
  | _, _, .nil, e => by simp at e
  | _, _, .cons (f := g) r t, e => by
    simp only [List.lookup] at e ⊢
    cases h : f == g with
    | true => rw [h] at e; simp at e; subst e; exact ⟨_, rfl, r⟩
    | false => rw [h] at e; exact RepG.lookup t e
theorem RepG.lookup_none {f : Str} : ∀ {ds : List (Str × D)} {vs : List (Str × V)}, RepG K I ds vs → ds.lookup f = none → vs.lookup f = none
  | _, _, .nil, _ => rfl
  | _, _, .cons (f := g) r t, e => by
    simp only [List.lookup] at e ⊢
    cases h : f == g with
    | true => rw [h] at e; simp at e
    | false => rw [h] at e; exact RepG.lookup_none t e
/-- a field put -/
def putG (f : Str) (v : D) : List (Str × D) → List (Str × D)
  | [] => [(f, v)]
  | (g, x) :: r => if g = f then (g, v) :: r else (g, x) :: putG f v r
theorem RepG.put {f : Str} {d : D} {v : V} (r : Rep K I d v) : ∀ {ds : List (Str × D)} {vs : List (Str × V)}, RepG K I ds vs → RepG K I (putG f d ds) (putF f v vs)
  | _, _, .nil => .cons r .nil
  | _, _, .cons (f := g) q t => by
    unfold putG putF
    by_cases h : g = f
    · rw [if_pos h, if_pos h]; exact .cons r t
    · rw [if_neg h, if_neg h]; exact .cons q (RepG.put r t)
theorem RepK.length : ∀ {ds : List (Str × D)} {vs : List (Key × V)}, RepK K I ds vs → ds.length = vs.length
  | _, _, .nil => rfl
  | _, _, .cons _ r => congrArg (· + 1) (RepK.length r)
theorem RepK.val {f : Str} {d : D} : ∀ {ds : List (Str × D)} {vs : List (Key × V)}, RepK K I ds vs → ds.lookup f = some d → ∃ v, valV vs (Sum.inr f : Key) = some v ∧ Rep K I d v
  | _, _, .nil, e => by simp at e
  | _, _, .cons (f := g) (v := v) (vs := vs) r t, e => by
    simp only [List.lookup] at e
    by_cases h : f = g
    · subst h
      simp at e; subst e
      exact ⟨v, valV_pos rfl, r⟩
    · have hb : (f == g) = false := beq_eq_false_iff_ne.mpr h
      rw [hb] at e
      obtain ⟨u, h1, h2⟩ := RepK.val t e
      exact ⟨u, by rw [valV_neg (by simpa using fun q => h q.symm)]; exact h1, h2⟩
end

/-! ### what changes: cells -/
inductive Cell where
  | lst (xs : List D) | ins (C : Addr) (fs : List (Str × D)) | dk (kvs : List (Str × D)) | xd (fs : List (Str × D))
  | dn (hs : NestedKey → Int) (kvs : List (NestedKey × D))
  | tab (q : Str) | fn (o : Obj) (c : Addr) (q : Str)
abbrev Wd := Addr → Option Cell
def updW (W : Wd) (a : Addr) (c : Cell) : Wd := fun b => if b = a then some c else W b
def delW (W : Wd) (a : Addr) : Wd := fun b => if b = a then none else W b
theorem updW_same {W : Wd} {a : Addr} {c : Cell} : updW W a c a = some c := if_pos rfl
theorem updW_ne {W : Wd} {a b : Addr} {c : Cell} (h : b ≠ a) : updW W a c b = W b := if_neg h
theorem delW_same {W : Wd} {a : Addr} : delW W a a = none := if_pos rfl
theorem delW_ne {W : Wd} {a b : Addr} (h : b ≠ a) : delW W a b = W b := if_neg h
theorem updW_updW {W : Wd} {a : Addr} {c c' : Cell} : updW (updW W a c) a c' = updW W a c' := by
  funext b; unfold updW; split <;> rfl
theorem delW_updW {W : Wd} {a : Addr} {c : Cell} (h : W a = none) : delW (updW W a c) a = W := by
  funext b; unfold updW delW; split
  · rename_i e; rw [e, h]
  · rename_i e; exact if_neg e
theorem ne_of_W {W : Wd} {a b : Addr} {c : Cell} (h : W a = some c) (h' : W b = none) : a ≠ b := by
  intro e; subst e; rw [h] at h'; cases h'

/-- the codes that a table tells of -/
def TabI (I : Hp) (q : Str) (ps : Array Value) : Prop := TriplesOk ps.toList ∧ ∀ (pos : Pos) (cv : Value), codeAmong pos ps.toList = some cv → ∃ c, cv = .ref c ∧ I c = some (LamX.CodeO c q)
theorem TabI.mono {I I' : Hp} {q : Str} {ps : Array Value} (h : TabI I q ps) (e : Same I I') : TabI I' q ps := ⟨h.1, fun pos cv hc => let ⟨c, e1, e2⟩ := h.2 pos cv hc; ⟨c, e1, e _ _ e2⟩⟩
/-- a function's object as it was made -/
def fnO (a : Addr) (o : Obj) : HO := .ext fun h => h.get? a = some o
def CellOk (K : PySem.W.Frag) (I H : Hp) (a : Addr) : Cell → Prop
  | .lst ds => ∃ vs, H a = some (.lst vs) ∧ RepL K I ds vs
  | .ins C fs => ∃ dx fv, H a = some (.ins C dx fv) ∧ RepG K I fs fv
  | .dk kds => ∃ kvs, H a = some (.dK kvs) ∧ RepK K I kds kvs
  | .xd fs => ∃ fv, H a = some (.xd fv) ∧ RepG K I fs fv
  | .dn hs kvs => ∃ xs, H a = some (dnO hs a xs) ∧ RepN K I kvs xs
  | .tab q => ∃ ps, H a = some (.tbl ps) ∧ TabI I q ps
  | .fn o c q => H a = some (fnO a o) ∧ I c = some (LamX.CodeO c q)
theorem CellOk.there {K : PySem.W.Frag} {I H : Hp} {a : Addr} {c : Cell} (h : CellOk K I H a c) : ∃ o, H a = some o := by
  cases c with
  | lst ds => obtain ⟨vs, h, _⟩ := h; exact ⟨_, h⟩
  | ins C fs => obtain ⟨dx, fv, h, _⟩ := h; exact ⟨_, h⟩
  | dk kds => obtain ⟨vs, h, _⟩ := h; exact ⟨_, h⟩
  | xd kds => obtain ⟨vs, h, _⟩ := h; exact ⟨_, h⟩
  | dn hs kvs => obtain ⟨vs, h, _⟩ := h; exact ⟨_, h⟩
  | tab q => obtain ⟨vs, h, _⟩ := h; exact ⟨_, h⟩
  | fn o c q => exact ⟨_, h.1⟩
theorem CellOk.mono {K : PySem.W.Frag} {I I' H H' : Hp} {a : Addr} {c : Cell} (e : Same I I') (ea : ∀ o, H a = some o → H' a = some o) (h : CellOk K I H a c) : CellOk K I' H' a c := by
  cases c with
  | lst ds => obtain ⟨vs, h, r⟩ := h; exact ⟨vs, ea _ h, r.mono e⟩
  | ins C fs => obtain ⟨dx, fv, h, r⟩ := h; exact ⟨dx, fv, ea _ h, r.mono e⟩
  | dk kds => obtain ⟨vs, h, r⟩ := h; exact ⟨vs, ea _ h, r.mono e⟩
  | xd kds => obtain ⟨vs, h, r⟩ := h; exact ⟨vs, ea _ h, r.mono e⟩
  | dn hs kvs => obtain ⟨xs, h, r⟩ := h; exact ⟨xs, ea _ h, r.mono e⟩
  | tab q => obtain ⟨ps, h, r⟩ := h; exact ⟨ps, ea _ h, r.mono e⟩
  | fn o c q => exact ⟨ea _ h.1, e _ _ h.2⟩

/-- what stands: data that stay (I), cells (W), and what is let be (Z) -/
structure SR (K : PySem.W.Frag) (Z I : Hp) (W : Wd) (H : Hp) : Prop where
  imm : Same I H
  cell : ∀ a c, W a = some c → I a = none ∧ CellOk K I H a c
  fr : ∀ a o, Z a = some o → H a = some o ∧ I a = none ∧ W a = none
section
variable {K : PySem.W.Frag} {Z I H : Hp} {W : Wd} {p a : Addr}
theorem SR.newI (S : SR K Z I W H) (h : H p = none) : I p = none := S.imm.free h
theorem SR.newW (S : SR K Z I W H) (h : H p = none) : W p = none := by
  cases e : W p with
  | none => rfl
  | some c =>
    obtain ⟨o, q⟩ := (S.cell p c e).2.there
    rw [h] at q; cases q
theorem SR.newZ (S : SR K Z I W H) (h : H p = none) : Z p = none := by
  cases e : Z p with
  | none => rfl
  | some c =>
    have q := (S.fr p c e).1
    rw [h] at q; cases q
theorem same_upd {H : Hp} {p : Addr} {o : HO} (h : H p = none) : Same H (upd H p o) := fun b u e => by
  rw [upd_ne (ne_of_none e h)]; exact e
/-- a new thing that stays -/
theorem SR.lay (S : SR K Z I W H) (h : H p = none) (o : HO) : SR K Z (upd I p o) W (upd H p o) ∧ Same I (upd I p o) := by
  have hI := S.newI h
  have hW := S.newW h
  have hZ := S.newZ h
  refine ⟨⟨fun b u e => ?_, fun b c e => ?_, fun b u e => ?_⟩, same_upd hI⟩
  · by_cases hb : b = p
    · subst hb; rw [upd_same] at e ⊢; exact e
    · rw [upd_ne hb] at e ⊢; exact S.imm b u e
  · have hb : b ≠ p := ne_of_W e hW
    obtain ⟨h1, h2⟩ := S.cell b c e
    exact ⟨by rw [upd_ne hb]; exact h1, h2.mono (same_upd hI) fun u q => by rw [upd_ne hb]; exact q⟩
  · have hb : b ≠ p := ne_of_none e hZ
    obtain ⟨h1, h2, h3⟩ := S.fr b u e
    exact ⟨by rw [upd_ne hb]; exact h1, by rw [upd_ne hb]; exact h2, h3⟩
/-- a new thing that nobody tells of -/
theorem SR.lay0 (S : SR K Z I W H) (h : H p = none) (o : HO) : SR K Z I W (upd H p o) := by
  refine ⟨fun b u e => ?_, fun b c e => ?_, fun b u e => ?_⟩
  · exact same_upd h b u (S.imm b u e)
  · obtain ⟨h1, h2⟩ := S.cell b c e
    exact ⟨h1, h2.mono (Same.refl I) fun u q => same_upd h b u q⟩
  · obtain ⟨h1, h2, h3⟩ := S.fr b u e
    exact ⟨same_upd h b u h1, h2, h3⟩
/-- a cell made or written -/
theorem SR.put (S : SR K Z I W H) (hI : I p = none) (hZ : Z p = none) {o : HO} {c : Cell} (hc : CellOk K I (upd H p o) p c) : SR K Z I (updW W p c) (upd H p o) := by
  refine ⟨fun b u e => ?_, fun b c' e => ?_, fun b u e => ?_⟩
  · rw [upd_ne (ne_of_none e hI)]; exact S.imm b u e
  · by_cases hb : b = p
    · subst hb; rw [updW_same] at e; cases e; exact ⟨hI, hc⟩
    · rw [updW_ne hb] at e
      obtain ⟨h1, h2⟩ := S.cell b c' e
      exact ⟨h1, h2.mono (Same.refl I) fun u q => by rw [upd_ne hb]; exact q⟩
  · have hb : b ≠ p := ne_of_none e hZ
    obtain ⟨h1, h2, h3⟩ := S.fr b u e
    exact ⟨by rw [upd_ne hb]; exact h1, h2, by rw [updW_ne hb]; exact h3⟩
theorem SR.noZ (S : SR K Z I W H) {c : Cell} (h : W p = some c) : Z p = none := by
  cases e : Z p with
  | none => rfl
  | some o =>
    have q := (S.fr p o e).2.2
    rw [h] at q; cases q
/-- a cell let go -/
theorem SR.drop (S : SR K Z I W H) : SR K Z I (delW W p) H := by
  refine ⟨S.imm, fun b c e => ?_, fun b u e => ?_⟩
  · by_cases hb : b = p
    · subst hb; rw [delW_same] at e; cases e
    · rw [delW_ne hb] at e; exact S.cell b c e
  · obtain ⟨h1, h2, h3⟩ := S.fr b u e
    refine ⟨h1, h2, ?_⟩
    unfold delW
    split
    · rfl
    · exact h3
/-- a cell that stays from now on -/
theorem SR.freeze (S : SR K Z I W H) {o : HO} (h : H p = some o) (hI : I p = none) (hW : ∃ c, W p = some c) : SR K Z (upd I p o) (delW W p) H ∧ Same I (upd I p o) := by
  obtain ⟨c0, hW⟩ := hW
  have hZ := S.noZ hW
  refine ⟨⟨fun b u e => ?_, fun b c e => ?_, fun b u e => ?_⟩, same_upd hI⟩
  · by_cases hb : b = p
    · subst hb; rw [upd_same] at e; cases e; exact h
    · rw [upd_ne hb] at e; exact S.imm b u e
  · by_cases hb : b = p
    · subst hb; rw [delW_same] at e; cases e
    · rw [delW_ne hb] at e
      obtain ⟨h1, h2⟩ := S.cell b c e
      exact ⟨by rw [upd_ne hb]; exact h1, h2.mono (same_upd hI) fun u q => q⟩
  · have hb : b ≠ p := ne_of_none e hZ
    obtain ⟨h1, h2, h3⟩ := S.fr b u e
    exact ⟨h1, by rw [upd_ne hb]; exact h2, by rw [delW_ne hb]; exact h3⟩
/-- a new thing that is let be for a while; it is changed; it stays from now on; it is a cell from now on -/
theorem SR.hide (S : SR K Z I W H) (h : H p = none) (o : HO) : SR K (upd Z p o) I W (upd H p o) := by
  have S1 := S.lay0 h o
  refine ⟨S1.imm, S1.cell, fun b u e => ?_⟩
  by_cases hb : b = p
  · subst hb; rw [upd_same] at e ⊢; exact ⟨e, S.newI h, S.newW h⟩
  · rw [upd_ne hb] at e; exact S1.fr b u e
theorem SR.hidden {o : HO} (S : SR K (upd Z p o) I W H) : H p = some o ∧ I p = none ∧ W p = none := S.fr p o upd_same
theorem SR.rehide {o : HO} (S : SR K (upd Z p o) I W H) (o' : HO) : SR K (upd Z p o') I W (upd H p o') := by
  obtain ⟨h1, h2, h3⟩ := S.hidden
  refine ⟨fun b u e => ?_, fun b c e => ?_, fun b u e => ?_⟩
  · rw [upd_ne (ne_of_none e h2)]; exact S.imm b u e
  · have hb : b ≠ p := ne_of_W e h3
    obtain ⟨q1, q2⟩ := S.cell b c e
    exact ⟨q1, q2.mono (Same.refl I) fun u q => by rw [upd_ne hb]; exact q⟩
  · by_cases hb : b = p
    · subst hb; rw [upd_same] at e ⊢; exact ⟨e, h2, h3⟩
    · rw [upd_ne hb] at e ⊢; exact S.fr b u (by rw [upd_ne hb]; exact e)
theorem SR.unhide {o : HO} (S : SR K (upd Z p o) I W H) (hZ : Z p = none) : SR K Z (upd I p o) W H ∧ Same I (upd I p o) := by
  obtain ⟨h1, h2, h3⟩ := S.hidden
  refine ⟨⟨fun b u e => ?_, fun b c e => ?_, fun b u e => ?_⟩, same_upd h2⟩
  · by_cases hb : b = p
    · subst hb; rw [upd_same] at e; cases e; exact h1
    · rw [upd_ne hb] at e; exact S.imm b u e
  · have hb : b ≠ p := ne_of_W e h3
    obtain ⟨q1, q2⟩ := S.cell b c e
    exact ⟨by rw [upd_ne hb]; exact q1, q2.mono (same_upd h2) fun u q => q⟩
  · have hb : b ≠ p := ne_of_none e hZ
    obtain ⟨q1, q2, q3⟩ := S.fr b u (by rw [upd_ne hb]; exact e)
    exact ⟨q1, by rw [upd_ne hb]; exact q2, q3⟩
theorem SR.unhideM {o : HO} {c : Cell} (S : SR K (upd Z p o) I W H) (hZ : Z p = none) (hc : CellOk K I H p c) : SR K Z I (updW W p c) H := by
  obtain ⟨h1, h2, h3⟩ := S.hidden
  refine ⟨S.imm, fun b c' e => ?_, fun b u e => ?_⟩
  · by_cases hb : b = p
    · subst hb; rw [updW_same] at e; cases e; exact ⟨h2, hc⟩
    · rw [updW_ne hb] at e; exact S.cell b c' e
  · have hb : b ≠ p := ne_of_none e hZ
    obtain ⟨q1, q2, q3⟩ := S.fr b u (by rw [upd_ne hb]; exact e)
    exact ⟨q1, q2, by rw [updW_ne hb]; exact q3⟩
end

/-! ### slots -/
abbrev DEnv := List (Option D)
@[simp] def getS : DEnv → Nat → Option D
  | [], _ => none
  | a :: _, 0 => a
  | _ :: l, n + 1 => getS l n
@[simp] def setS : DEnv → Nat → D → DEnv
  | [], _, _ => []
  | _ :: l, 0, d => some d :: l
  | a :: l, n + 1, d => a :: setS l n d
@[simp] def clrS : DEnv → Nat → DEnv
  | [], _ => []
  | _ :: l, 0 => none :: l
  | a :: l, n + 1 => a :: clrS l n
inductive EnvR (K : PySem.W.Frag) (I : Hp) : L2.St → DEnv → Prop
  | nil : EnvR K I [] []
  | no {o : Option V} {σ : L2.St} {ρ : DEnv} : EnvR K I σ ρ → EnvR K I (o :: σ) (none :: ρ)
  | yes {v : V} {d : D} {σ : L2.St} {ρ : DEnv} : Rep K I d v → EnvR K I σ ρ → EnvR K I (some v :: σ) (some d :: ρ)
section
variable {K : PySem.W.Frag} {I I' : Hp}
theorem EnvR.mono (e : Same I I') : ∀ {σ : L2.St} {ρ : DEnv}, EnvR K I σ ρ → EnvR K I' σ ρ
  | _, _, .nil => .nil
  | _, _, .no t => .no (EnvR.mono e t)
  | _, _, .yes r t => .yes (r.mono e) (EnvR.mono e t)
theorem EnvR.get : ∀ {σ : L2.St} {ρ : DEnv} {i : Nat} {d : D}, EnvR K I σ ρ → getS ρ i = some d → ∃ v, σ[i]? = some (some v) ∧ Rep K I d v
  | _, _, _, _, .nil, e => by simp [getS] at e
  | _, _, 0, _, .no _, e => by simp [getS] at e
  | _, _, 0, _, .yes r _, e => by simp [getS] at e; subst e; exact ⟨_, rfl, r⟩
  | _, _, i + 1, _, .no t, e => by
    obtain ⟨v, h1, h2⟩ := EnvR.get (i := i) t (by simpa [getS] using e)
    exact ⟨v, by simpa using h1, h2⟩
  | _, _, i + 1, _, .yes _ t, e => by
    obtain ⟨v, h1, h2⟩ := EnvR.get (i := i) t (by simpa [getS] using e)
    exact ⟨v, by simpa using h1, h2⟩
theorem EnvR.set {d : D} {v : V} (r : Rep K I d v) : ∀ {σ : L2.St} {ρ : DEnv} (i : Nat), EnvR K I σ ρ → EnvR K I (σ.set i (some v)) (setS ρ i d)
  | _, _, _, .nil => .nil
  | _, _, 0, .no t => .yes r t
  | _, _, 0, .yes _ t => .yes r t
  | _, _, i + 1, .no t => .no (EnvR.set r i t)
  | _, _, i + 1, .yes q t => .yes q (EnvR.set r i t)
theorem EnvR.clr : ∀ {σ : L2.St} {ρ : DEnv} (i : Nat), EnvR K I σ ρ → EnvR K I (σ.set i none) (clrS ρ i)
  | _, _, _, .nil => .nil
  | _, _, 0, .no t => .no t
  | _, _, 0, .yes _ t => .no t
  | _, _, i + 1, .no t => .no (EnvR.clr i t)
  | _, _, i + 1, .yes q t => .yes q (EnvR.clr i t)
@[simp] def wipeS (ρ : DEnv) : List Nat → DEnv
  | [] => ρ
  | v :: vs => clrS (wipeS ρ vs) v
theorem EnvR.wipe {σ : L2.St} {ρ : DEnv} (h : EnvR K I σ ρ) : ∀ vs : List Nat, EnvR K I (L2.wipe σ vs) (wipeS ρ vs)
  | [] => h
  | v :: vs => (EnvR.wipe h vs).clr v
/-- the slots at a def's entry -/
def startS : List Str → List D → DEnv
  | [], _ => []
  | _ :: N, d :: ds => some d :: startS N ds
  | _ :: N, [] => none :: startS N []
theorem EnvR.nones : ∀ n : Nat, EnvR K I (List.replicate n none) (List.replicate n none)
  | 0 => .nil
  | n + 1 => by rw [List.replicate_succ, List.replicate_succ]; exact .no (EnvR.nones n)
theorem startS_nil : ∀ N : List Str, startS N [] = List.replicate N.length none
  | [] => rfl
  | _ :: N => by rw [startS, startS_nil N]; rfl
theorem EnvR.start : ∀ {N : List Str} {ds : List D} {vs : List V}, RepL K I ds vs → vs.length ≤ N.length → EnvR K I (L2.start N vs) (startS N ds)
  | [], _, _, .nil, _ => .nil
  | [], _, _, .cons _ _, h => by simp at h
  | x :: N, _, _, .nil, _ => by
    rw [startS_nil]
    unfold L2.start
    simp only [List.map_nil, List.nil_append, List.length_nil, Nat.sub_zero]
    exact EnvR.nones _
  | x :: N, _, _, .cons r t, h => by
    have ih := EnvR.start (N := N) t (by simpa using h)
    unfold L2.start at ih ⊢
    simp only [List.map_cons, List.cons_append, List.length_cons, Nat.add_sub_add_right, startS] at ih ⊢
    exact .yes r ih
end
end DL

/-! DL2: judgements over data, expressions. -/
namespace DL
open PySem PySem.Spec PyProof.Rows L2

abbrev QD := D → Wd → Prop
abbrev XD := Addr → List (Str × D) → Wd → Prop
abbrev TD := DEnv → Wd → QD → XD → Prop
abbrev TTd := DEnv → Wd → (Bool → Wd → Prop) → XD → Prop
abbrev TAd := DEnv → Wd → (List D → Wd → Prop) → XD → Prop

def SimV (K : PySem.W.Frag) (Z I : Hp) (Qd : QD) (Q : VK) : Prop := ∀ d W v I' H, Same I I' → SR K Z I' W H → Rep K I' d v → Qd d W → Q v H
def SimB (K : PySem.W.Frag) (Z I : Hp) (Qd : Bool → Wd → Prop) (Q : Bool → Hp → Prop) : Prop := ∀ b W I' H, Same I I' → SR K Z I' W H → Qd b W → Q b H
def SimA (K : PySem.W.Frag) (Z I : Hp) (Qd : List D → Wd → Prop) (Q : List V → Hp → Prop) : Prop := ∀ ds W vs I' H, Same I I' → SR K Z I' W H → RepL K I' ds vs → Qd ds W → Q vs H
def ExcAt (Z I H : Hp) (W : Wd) : Option Addr → List (Str × V) → Prop
  | none, fv => fv = []
  | some d, fv => H d = some (.xd fv) ∧ I d = none ∧ Z d = none ∧ W d = none
theorem ExcAt.unhide {Z I H : Hp} {W : Wd} {p : Addr} {o : HO} {dx : Option Addr} {fv : List (Str × V)} (h : ExcAt (upd Z p o) I H W dx fv) : ExcAt Z I H W dx fv := by
  cases dx with
  | none => exact h
  | some d =>
    obtain ⟨h1, h2, h3, h4⟩ := h
    refine ⟨h1, h2, ?_, h4⟩
    by_cases e : d = p
    · subst e; rw [upd_same] at h3; cases h3
    · rwa [upd_ne e] at h3
def SimX (K : PySem.W.Frag) (Z I : Hp) (Ed : XD) (E : XK) : Prop := ∀ C fs W I' H dx fv, Same I I' → SR K Z I' W H → RepG K I' fs fv → ExcAt Z I' H W dx fv → Ed C fs W → E (.ref C) dx H
section
variable {K : PySem.W.Frag} {Z I I' : Hp}
theorem SimV.mono {Qd : QD} {Q : VK} (s : SimV K Z I Qd Q) (e : Same I I') : SimV K Z I' Qd Q := fun d W v I2 H e2 => s d W v I2 H (e.trans e2)
theorem SimB.mono {Qd : Bool → Wd → Prop} {Q : Bool → Hp → Prop} (s : SimB K Z I Qd Q) (e : Same I I') : SimB K Z I' Qd Q := fun d W I2 H e2 => s d W I2 H (e.trans e2)
theorem SimA.mono {Qd : List D → Wd → Prop} {Q : List V → Hp → Prop} (s : SimA K Z I Qd Q) (e : Same I I') : SimA K Z I' Qd Q := fun d W v I2 H e2 => s d W v I2 H (e.trans e2)
theorem SimX.mono {Ed : XD} {E : XK} (s : SimX K Z I Ed E) (e : Same I I') : SimX K Z I' Ed E := fun C fs W I2 H dx fv e2 => s C fs W I2 H dx fv (e.trans e2)
end

/-- what the rules ask of where one stands -/
structure Ct (X : Cx) (E : XK) (j : Nat) : Prop where
  calm : X.calm = true
  own : PassesOwn (model X.prog X.w) X.A X.env X.xe
  pass : Passes (L2.CX X.prog X.w) X E
  room : Room j X.A
  nd : X.N.Nodup
theorem Ct.hu {X : Cx} {E : XK} {j : Nat} (c : Ct X E j) : X.A.units + 1 < cLine := hu_of c.room
theorem Ct.mono {X : Cx} {E : XK} {i j : Nat} (c : Ct X E j) (h : i ≤ j) : Ct X E i := ⟨c.calm, c.own, c.pass, c.room.mono h, c.nd⟩

def Den (K : PySem.W.Frag) (E : XK) (t : TE) (td : TD) : Prop := ∀ {Z I : Hp} {W : Wd} {H : Hp} {σ : L2.St} {ρ : DEnv} {Qd : QD} {Ed : XD} {Q : VK}, SR K Z I W H → EnvR K I σ ρ → td ρ W Qd Ed → SimV K Z I Qd Q → SimX K Z I Ed E → t σ H Q
def DenT (K : PySem.W.Frag) (E : XK) (t : TT) (td : TTd) : Prop := ∀ {Z I : Hp} {W : Wd} {H : Hp} {σ : L2.St} {ρ : DEnv} {Qd : Bool → Wd → Prop} {Ed : XD} {Q : Bool → Hp → Prop}, SR K Z I W H → EnvR K I σ ρ → td ρ W Qd Ed → SimB K Z I Qd Q → SimX K Z I Ed E → t σ H Q
def DenA (K : PySem.W.Frag) (E : XK) (t : TA) (td : TAd) : Prop := ∀ {Z I : Hp} {W : Wd} {H : Hp} {σ : L2.St} {ρ : DEnv} {Qd : List D → Wd → Prop} {Ed : XD} {Q : List V → Hp → Prop}, SR K Z I W H → EnvR K I σ ρ → td ρ W Qd Ed → SimA K Z I Qd Q → SimX K Z I Ed E → t σ H Q
structure DE (X : Cx) (E : XK) (e : Expr) (td : TD) : Prop where
  ex : ∃ t : TE, PE X e t ∧ Den X.K E t td
structure DT (X : Cx) (E : XK) (e : Expr) (td : TTd) : Prop where
  ex : ∃ t : TT, PT X e t ∧ DenT X.K E t td
structure DW (X : Cx) (E : XK) (e : Expr) (td : TTd) : Prop where
  ex : ∃ t : TT, PW X e t ∧ DenT X.K E t td
structure DA (X : Cx) (E : XK) (es : List Expr) (td : TAd) : Prop where
  ex : ∃ t : TA, PA X es t ∧ DenA X.K E t td

/-! ### names, constants -/
def tdVar (i : Nat) : TD := fun ρ W Q _ => match getS ρ i with
  | some d => Q d W
  | none => False
@[simp ↓] theorem tdVar_u (i : Nat) : ∀ ρ W Q u_0, tdVar i ρ W Q u_0 = (match getS ρ i with
  | some d => Q d W
  | none => False) := fun _ _ _ _ => propext Iff.rfl
def tdC (d : D) : TD := fun _ W Q _ => Q d W
@[simp ↓] theorem tdC_u (d : D) : ∀ u_0 W Q u_1, tdC d u_0 W Q u_1 = (Q d W) := fun _ _ _ _ => propext Iff.rfl
section
variable {X : Cx} {E : XK}
theorem de_var (i : Nat) {x : Str} {pos : Pos} (hN : X.N[i]? = some x := by rfl) (hv : Vis X.env.scope x := by first | exact Or.inl rfl | exact Or.inr (Or.inl rfl) | exact Or.inr (Or.inr rfl)) (hd : (x == ("__debug__" : Str)) = false := by decide)
    (hcd : (x == ("__classdict__" : Str)) = false := by decide) : DE X E (.Name x pos) (tdVar i) := by
  refine ⟨_, pe_var hN hv hd hcd, fun {Z I W H σ ρ Qd Ed Q} S R h sv sx => ?_⟩
  unfold tdVar at h
  split at h
  · rename_i d e
    obtain ⟨v, h1, r⟩ := R.get e
    exact ⟨v, h1, sv d W v I H (Same.refl I) S r h⟩
  · exact h.elim
theorem den_c {K : PySem.W.Frag} {d : D} {v : V} (r : ∀ I, Rep K I d v) : Den K E (tC v) (tdC d) := fun {Z I W H σ ρ Qd Ed Q} S R h sv sx => sv d W v I H (Same.refl I) S (r I) h
theorem de_int {i : Int} {j pos} : DE X E (.Constant (.int i) j pos) (tdC (.int i)) := ⟨_, pe_int, den_c fun _ => .int i⟩
theorem de_bl {b : Bool} {j pos} : DE X E (.Constant (.bool b) j pos) (tdC (.bl b)) := ⟨_, pe_bl, den_c fun _ => .bl b⟩
theorem de_non {j pos} : DE X E (.Constant .none j pos) (tdC .non) := ⟨_, pe_non, den_c fun _ => .non⟩
theorem de_str {x : Str} {j pos} : DE X E (.Constant (.str x) j pos) (tdC (.str x)) := ⟨_, pe_str, den_c fun _ => .str x⟩
/-- a constant of the module -/
structure GlobD (K : PySem.W.Frag) (mg : Str → Option Value) (x : Str) (d : D) : Prop where
  ex : ∃ u v, mg x = some u ∧ RelV v u ∧ ∀ I, Rep K I d v
theorem de_glob {x : Str} {d : D} {pos : Pos} (g : GlobD X.K X.mg x d) (hg : Gl X x := by rfl) (hd : (x == ("__debug__" : Str)) = false := by decide) : DE X E (.Name x pos) (tdC d) := by
  obtain ⟨u, v, hm, r, h⟩ := g.ex
  exact ⟨_, pe_glob hg hm r hd, den_c h⟩

/-! ### argument lists, displays -/
def tdNil : TAd := fun _ W Q _ => Q [] W
@[simp ↓] theorem tdNil_u : ∀ u_0 W Q u_1, tdNil u_0 W Q u_1 = (Q [] W) := fun _ _ _ _ => propext Iff.rfl
def tdCons (ta : TD) (tr : TAd) : TAd := fun ρ W Q E => ta ρ W (fun x W1 => tr ρ W1 (fun xs W2 => Q (x :: xs) W2) E) E
@[simp ↓] theorem tdCons_u (ta : TD) (tr : TAd) : ∀ ρ W Q E, tdCons ta tr ρ W Q E = (ta ρ W (fun x W1 => tr ρ W1 (fun xs W2 => Q (x :: xs) W2) E) E) := fun _ _ _ _ => propext Iff.rfl
variable {e a b c : Expr} {es : List Expr} {td ta tb tc : TD} {tr : TAd} {pos : Pos}
theorem da_nil : DA X E [] tdNil := ⟨_, pa_nil, fun {Z I W H σ ρ Qd Ed Q} S R h sv sx => sv [] W [] I H (Same.refl I) S .nil h⟩
theorem da_cons (ha : DE X E e td) (hr : DA X E es tr) (hs : starEach (e :: es) X.env = (false, eval e X.env) :: starEach es X.env := by rfl) : DA X E (e :: es) (tdCons td tr) := by
  obtain ⟨t1, p1, d1⟩ := ha.ex
  obtain ⟨t2, p2, d2⟩ := hr.ex
  refine ⟨_, pa_cons p1 p2 hs, fun {Z I W H σ ρ Qd Ed Q} S R h sv sx => ?_⟩
  refine d1 S R h (fun x W1 v I1 H1 e1 S1 r1 h1 => ?_) sx
  refine d2 S1 (R.mono e1) h1 (fun xs W2 vs I2 H2 e2 S2 r2 h2 => ?_) (sx.mono e1)
  exact sv _ W2 _ I2 H2 (e1.trans e2) S2 (.cons (r1.mono e2) r2) h2
def tdTup (ta : TAd) : TD := fun ρ W Q E => ta ρ W (fun ds W1 => ds.length ≤ sizeLine ∧ Q (.tup ds) W1) E
@[simp ↓] theorem tdTup_u (ta : TAd) : ∀ ρ W Q E, tdTup ta ρ W Q E = (ta ρ W (fun ds W1 => ds.length ≤ sizeLine ∧ Q (.tup ds) W1) E) := fun _ _ _ _ => propext Iff.rfl
def tdLst (ta : TAd) : TD := fun ρ W Q E => ta ρ W (fun ds W1 => ds.length ≤ sizeLine ∧ Q (.lst ds) W1) E
@[simp ↓] theorem tdLst_u (ta : TAd) : ∀ ρ W Q E, tdLst ta ρ W Q E = (ta ρ W (fun ds W1 => ds.length ≤ sizeLine ∧ Q (.lst ds) W1) E) := fun _ _ _ _ => propext Iff.rfl
/-- a list that will change -/
def tdLstM (ta : TAd) : TD := fun ρ W Q E => ta ρ W (fun ds W1 => ds.length ≤ sizeLine ∧ ∀ p, W1 p = none → Q (.ref p) (updW W1 p (.lst ds))) E
@[simp ↓] theorem tdLstM_u (ta : TAd) : ∀ ρ W Q E, tdLstM ta ρ W Q E = (ta ρ W (fun ds W1 => ds.length ≤ sizeLine ∧ ∀ p, W1 p = none → Q (.ref p) (updW W1 p (.lst ds))) E) := fun _ _ _ _ => propext Iff.rfl
theorem sim_tup {K : PySem.W.Frag} {Z I H : Hp} {W : Wd} {ds : List D} {vs : List V} {Qd : QD} {Q : VK} {p : Addr} (S : SR K Z I W H) (r : RepL K I ds vs) (sv : SimV K Z I Qd Q) (hp : H p = none) (h : Qd (.tup ds) W) : Q (.ref p) (upd H p (.tup vs)) := by
  obtain ⟨S1, e1⟩ := S.lay hp (.tup vs)
  exact sv _ W _ _ _ e1 S1 (.tup (.inl (.inl upd_same)) (r.mono e1)) h
theorem sim_lst {K : PySem.W.Frag} {Z I H : Hp} {W : Wd} {ds : List D} {vs : List V} {Qd : QD} {Q : VK} {p : Addr} (S : SR K Z I W H) (r : RepL K I ds vs) (sv : SimV K Z I Qd Q) (hp : H p = none) (h : Qd (.lst ds) W) : Q (.ref p) (upd H p (.lst vs)) := by
  obtain ⟨S1, e1⟩ := S.lay hp (.lst vs)
  exact sv _ W _ _ _ e1 S1 (.lst upd_same (r.mono e1)) h
theorem sim_lstM {K : PySem.W.Frag} {Z I H : Hp} {W : Wd} {ds : List D} {vs : List V} {Qd : QD} {Q : VK} {p : Addr} (S : SR K Z I W H) (r : RepL K I ds vs) (sv : SimV K Z I Qd Q) (hp : H p = none) (h : ∀ p, W p = none → Qd (.ref p) (updW W p (.lst ds))) : Q (.ref p) (upd H p (.lst vs)) := by
  have S1 := S.put (p := p) (S.newI hp) (S.newZ hp) (o := .lst vs) (c := .lst ds) ⟨vs, upd_same, r⟩
  exact sv _ _ _ I _ (Same.refl I) S1 (.ref p) (h p (S.newW hp))
theorem de_tup {x1} (h : DA X E es tr) : DE X E (.Tuple es x1 pos) (tdTup tr) := by
  obtain ⟨t1, p1, d1⟩ := h.ex
  refine ⟨_, pe_tup p1, fun {Z I W H σ ρ Qd Ed Q} S R h sv sx => ?_⟩
  refine d1 S R h (fun ds W1 vs I1 H1 e1 S1 r1 h1 => ⟨by rw [← r1.length]; exact h1.1, fun p hp => ?_⟩) sx
  exact sim_tup S1 r1 (sv.mono e1) hp h1.2
theorem de_lst (h : DA X E es tr) : DE X E (.List es pos) (tdLst tr) := by
  obtain ⟨t1, p1, d1⟩ := h.ex
  refine ⟨_, pe_lst p1, fun {Z I W H σ ρ Qd Ed Q} S R h sv sx => ?_⟩
  refine d1 S R h (fun ds W1 vs I1 H1 e1 S1 r1 h1 => ⟨by rw [← r1.length]; exact h1.1, fun p hp => ?_⟩) sx
  exact sim_lst S1 r1 (sv.mono e1) hp h1.2
theorem de_lstM (h : DA X E es tr) : DE X E (.List es pos) (tdLstM tr) := by
  obtain ⟨t1, p1, d1⟩ := h.ex
  refine ⟨_, pe_lst p1, fun {Z I W H σ ρ Qd Ed Q} S R h sv sx => ?_⟩
  refine d1 S R h (fun ds W1 vs I1 H1 e1 S1 r1 h1 => ⟨by rw [← r1.length]; exact h1.1, fun p hp => ?_⟩) sx
  exact sim_lstM S1 r1 (sv.mono e1) hp h1.2
/-- a list that was made stays as it is from here on -/
def tdFrz (ta : TD) : TD := fun ρ W Q E => ta ρ W (fun d W1 => ∃ p ds, d = .ref p ∧ W1 p = some (.lst ds) ∧ Q (.lst ds) (delW W1 p)) E
@[simp ↓] theorem tdFrz_u (ta : TD) : ∀ ρ W Q E, tdFrz ta ρ W Q E = (ta ρ W (fun d W1 => ∃ p ds, d = .ref p ∧ W1 p = some (.lst ds) ∧ Q (.lst ds) (delW W1 p)) E) := fun _ _ _ _ => propext Iff.rfl
theorem de_frz (h : DE X E e td) : DE X E e (tdFrz td) := by
  obtain ⟨t1, p1, d1⟩ := h.ex
  refine ⟨_, p1, fun {Z I W H σ ρ Qd Ed Q} S R h sv sx => ?_⟩
  refine d1 S R h (fun d W1 v I1 H1 e1 S1 r1 h1 => ?_) sx
  obtain ⟨p, ds, rfl, hp, q⟩ := h1
  cases r1
  obtain ⟨hI, vs, hH, rv⟩ := S1.cell p _ hp
  obtain ⟨S2, e2⟩ := S1.freeze hH hI ⟨_, hp⟩
  exact sv _ _ _ _ _ (e1.trans e2) S2 (.lst upd_same (rv.mono e2)) q

/-! ### operators -/
abbrev R2d := D → D → Wd → QD → Prop
structure OpD (X : Cx) (f : Value → Value → Sem Value) (r : R2d) : Prop where
  ex : ∃ rr : R2, OpR X f rr ∧ ∀ {Z I : Hp} {W : Wd} {H : Hp} {x y : D} {v u : V} {Qd : QD} {Q : VK}, SR X.K Z I W H → Rep X.K I x v → Rep X.K I y u → r x y W Qd → SimV X.K Z I Qd Q → rr v u H Q
def tdOp (r : R2d) (ta tb : TD) : TD := fun ρ W Q E => ta ρ W (fun x W1 => tb ρ W1 (fun y W2 => r x y W2 Q) E) E
@[simp ↓] theorem tdOp_u (r : R2d) (ta tb : TD) : ∀ ρ W Q E, tdOp r ta tb ρ W Q E = (ta ρ W (fun x W1 => tb ρ W1 (fun y W2 => r x y W2 Q) E) E) := fun _ _ _ _ => propext Iff.rfl
theorem den_op {K : PySem.W.Frag} {t1 t2 : TE} {rr : R2} {r : R2d} (d1 : Den K E t1 ta) (d2 : Den K E t2 tb)
    (dr : ∀ {Z I : Hp} {W : Wd} {H : Hp} {x y : D} {v u : V} {Qd : QD} {Q : VK}, SR K Z I W H → Rep K I x v → Rep K I y u → r x y W Qd → SimV K Z I Qd Q → rr v u H Q) : Den K E (tOp rr t1 t2) (tdOp r ta tb) := fun {Z I W H σ ρ Qd Ed Q} S R h sv sx => by
  refine d1 S R h (fun x W1 v I1 H1 e1 S1 r1 h1 => ?_) sx
  refine d2 S1 (R.mono e1) h1 (fun y W2 u I2 H2 e2 S2 r2 h2 => ?_) (sx.mono e1)
  exact dr S2 (r1.mono e2) r2 h2 (sv.mono (e1.trans e2))
theorem de_op {op : Operator} {r : R2d} (ho : OpD X (binaryOp op) r) (ha : DE X E a ta) (hb : DE X E b tb) : DE X E (.BinOp a op b pos) (tdOp r ta tb) := by
  obtain ⟨rr, pr, dr⟩ := ho.ex
  obtain ⟨t1, p1, d1⟩ := ha.ex
  obtain ⟨t2, p2, d2⟩ := hb.ex
  exact ⟨_, pe_op pr p1 p2, den_op d1 d2 dr⟩
theorem de_cmp {op : CmpOp} {r : R2d} (ho : OpD X (compareOp op) r) (ha : DE X E a ta) (hb : DE X E b tb) (hm : behindInMarks op b = false := by first | exact nomark _ | with_unfolding_all rfl) : DE X E (.Compare a [op] [b] pos) (tdOp r ta tb) := by
  obtain ⟨rr, pr, dr⟩ := ho.ex
  obtain ⟨t1, p1, d1⟩ := ha.ex
  obtain ⟨t2, p2, d2⟩ := hb.ex
  exact ⟨_, pe_cmpR pr p1 p2 hm, den_op d1 d2 dr⟩
/-- a value as a test: it is a bool -/
def tdB (t : TD) : TTd := fun ρ W Q E => t ρ W (fun x W1 => match x with
  | .bl c => Q c W1
  | _ => False) E
@[simp ↓] theorem tdB_u (t : TD) : ∀ ρ W Q E, tdB t ρ W Q E = (t ρ W (fun x W1 => match x with
  | .bl c => Q c W1
  | _ => False) E) := fun _ _ _ _ => propext Iff.rfl
theorem den_B {K : PySem.W.Frag} {t1 : TE} (d1 : Den K E t1 td) : DenT K E (tTest t1) (tdB td) := fun {Z I W H σ ρ Qd Ed Q} S R h sv sx => by
  refine d1 S R h (fun x W1 v I1 H1 e1 S1 r1 h1 => ?_) sx
  cases x with
  | bl c => cases r1; exact ⟨c, rfl, sv c W1 I1 H1 e1 S1 h1⟩
  | _ => exact h1.elim
theorem dt_cmp {op : CmpOp} {r : R2d} (ho : OpD X (compareOp op) r) (ha : DE X E a ta) (hb : DE X E b tb) (hm : behindInMarks op b = false := by first | exact nomark _ | with_unfolding_all rfl) : DT X E (.Compare a [op] [b] pos) (tdB (tdOp r ta tb)) := by
  obtain ⟨rr, pr, dr⟩ := ho.ex
  obtain ⟨t1, p1, d1⟩ := ha.ex
  obtain ⟨t2, p2, d2⟩ := hb.ex
  exact ⟨_, pt_cmpR pr p1 p2 hm, den_B (den_op d1 d2 dr)⟩
theorem dt_val (h : DE X E e td) (he : ∀ whole, isTrue e X.env whole = (do let v ← whole; standAt e.pos; holding [v] (truthy v)) := by intro _; rfl) : DT X E e (tdB td) := by
  obtain ⟨t1, p1, d1⟩ := h.ex
  exact ⟨_, pt_val p1 he, den_B d1⟩
def tdChain (r r' : R2d) (ta tb tc : TD) : TD := fun ρ W Q E => ta ρ W (fun x W1 => tb ρ W1 (fun y W2 => r x y W2 (fun z W3 => match z with
  | .bl k => if k = true then tc ρ W3 (fun w W4 => r' y w W4 Q) E else Q (.bl false) W3
  | _ => False)) E) E
@[simp ↓] theorem tdChain_u (r r' : R2d) (ta tb tc : TD) : ∀ ρ W Q E, tdChain r r' ta tb tc ρ W Q E = (ta ρ W (fun x W1 => tb ρ W1 (fun y W2 => r x y W2 (fun z W3 => match z with
  | .bl k => if k = true then tc ρ W3 (fun w W4 => r' y w W4 Q) E else Q (.bl false) W3
  | _ => False)) E) E) := fun _ _ _ _ => propext Iff.rfl
theorem den_chain {K : PySem.W.Frag} {t1 t2 t3 : TE} {rr rr' : R2} {r r' : R2d} (d1 : Den K E t1 ta) (d2 : Den K E t2 tb) (d3 : Den K E t3 tc)
    (dr : ∀ {Z I : Hp} {W : Wd} {H : Hp} {x y : D} {v u : V} {Qd : QD} {Q : VK}, SR K Z I W H → Rep K I x v → Rep K I y u → r x y W Qd → SimV K Z I Qd Q → rr v u H Q)
    (dr' : ∀ {Z I : Hp} {W : Wd} {H : Hp} {x y : D} {v u : V} {Qd : QD} {Q : VK}, SR K Z I W H → Rep K I x v → Rep K I y u → r' x y W Qd → SimV K Z I Qd Q → rr' v u H Q) : Den K E (tChain rr rr' t1 t2 t3) (tdChain r r' ta tb tc) := fun {Z I W H σ ρ Qd Ed Q} S R h sv sx => by
  refine d1 S R h (fun x W1 v I1 H1 e1 S1 r1 h1 => ?_) sx
  refine d2 S1 (R.mono e1) h1 (fun y W2 u I2 H2 e2 S2 r2 h2 => ?_) (sx.mono e1)
  refine dr S2 (r1.mono e2) r2 h2 (fun z W3 w I3 H3 e3 S3 r3 h3 => ?_)
  cases z with
  | bl k =>
    cases r3
    refine ⟨k, rfl, ?_⟩
    cases k with
    | true =>
      simp only [if_true] at h3 ⊢
      refine d3 S3 (R.mono (e1.trans (e2.trans e3))) h3 (fun w W4 w' I4 H4 e4 S4 r4 h4 => ?_) (sx.mono (e1.trans (e2.trans e3)))
      exact dr' S4 (r2.mono (e3.trans e4)) r4 h4 (sv.mono (e1.trans (e2.trans (e3.trans e4))))
    | false =>
      simp only [Bool.false_eq_true, if_false] at h3 ⊢
      exact sv _ W3 _ I3 H3 (e1.trans (e2.trans e3)) S3 (.bl false) h3
  | _ => exact h3.elim
theorem de_chain {op op' : CmpOp} {r r' : R2d} (ho : OpD X (compareOp op) r) (ho' : OpD X (compareOp op') r') (ha : DE X E a ta) (hb : DE X E b tb) (hc : DE X E c tc)
    (hm : lastMarks [op, op'] [b, c] = false := by with_unfolding_all rfl) : DE X E (.Compare a [op, op'] [b, c] pos) (tdChain r r' ta tb tc) := by
  obtain ⟨rr, pr, dr⟩ := ho.ex
  obtain ⟨rr', pr', dr'⟩ := ho'.ex
  obtain ⟨t1, p1, d1⟩ := ha.ex
  obtain ⟨t2, p2, d2⟩ := hb.ex
  obtain ⟨t3, p3, d3⟩ := hc.ex
  exact ⟨_, pe_chain pr pr' p1 p2 p3 hm, den_chain d1 d2 d3 dr dr'⟩
theorem dt_chain {op op' : CmpOp} {r r' : R2d} (ho : OpD X (compareOp op) r) (ho' : OpD X (compareOp op') r') (ha : DE X E a ta) (hb : DE X E b tb) (hc : DE X E c tc)
    (hm : lastMarks [op, op'] [b, c] = false := by with_unfolding_all rfl) : DT X E (.Compare a [op, op'] [b, c] pos) (tdB (tdChain r r' ta tb tc)) := by
  obtain ⟨rr, pr, dr⟩ := ho.ex
  obtain ⟨rr', pr', dr'⟩ := ho'.ex
  obtain ⟨t1, p1, d1⟩ := ha.ex
  obtain ⟨t2, p2, d2⟩ := hb.ex
  obtain ⟨t3, p3, d3⟩ := hc.ex
  exact ⟨_, pt_chain pr pr' p1 p2 p3 hm, den_B (den_chain d1 d2 d3 dr dr')⟩

/-! ### and, or, not, if else -/
variable {tA tB : TTd} {rest : List Expr}
def tdAnd (t u : TTd) : TTd := fun ρ W Q E => t ρ W (fun c W1 => if c = true then u ρ W1 Q E else Q false W1) E
@[simp ↓] theorem tdAnd_u (t u : TTd) : ∀ ρ W Q E, tdAnd t u ρ W Q E = (t ρ W (fun c W1 => if c = true then u ρ W1 Q E else Q false W1) E) := fun _ _ _ _ => propext Iff.rfl
def tdOr (t u : TTd) : TTd := fun ρ W Q E => t ρ W (fun c W1 => if c = true then Q true W1 else u ρ W1 Q E) E
@[simp ↓] theorem tdOr_u (t u : TTd) : ∀ ρ W Q E, tdOr t u ρ W Q E = (t ρ W (fun c W1 => if c = true then Q true W1 else u ρ W1 Q E) E) := fun _ _ _ _ => propext Iff.rfl
def tdNotT (t : TTd) : TTd := fun ρ W Q E => t ρ W (fun c W1 => Q (!c) W1) E
@[simp ↓] theorem tdNotT_u (t : TTd) : ∀ ρ W Q E, tdNotT t ρ W Q E = (t ρ W (fun c W1 => Q (!c) W1) E) := fun _ _ _ _ => propext Iff.rfl
theorem dw_and1 (ha : DT X E a tA) : DW X E (.BoolOp .And [a] pos) tA := by
  obtain ⟨t1, p1, d1⟩ := ha.ex
  exact ⟨_, pw_and1 p1, d1⟩
theorem dw_or1 (ha : DT X E a tA) : DW X E (.BoolOp .Or [a] pos) tA := by
  obtain ⟨t1, p1, d1⟩ := ha.ex
  exact ⟨_, pw_or1 p1, d1⟩
theorem dw_and (ha : DT X E a tA) (hb : DW X E (.BoolOp .And (b :: rest) pos) tB) : DW X E (.BoolOp .And (a :: b :: rest) pos) (tdAnd tA tB) := by
  obtain ⟨t1, p1, d1⟩ := ha.ex
  obtain ⟨t2, p2, d2⟩ := hb.ex
  refine ⟨_, pw_and p1 p2, fun {Z I W H σ ρ Qd Ed Q} S R h sv sx => ?_⟩
  refine d1 S R h (fun k W1 I1 H1 e1 S1 h1 => ?_) sx
  cases k with
  | true =>
    rw [if_pos rfl] at h1 ⊢
    exact d2 S1 (R.mono e1) h1 (sv.mono e1) (sx.mono e1)
  | false =>
    rw [if_neg Bool.false_ne_true] at h1 ⊢
    exact sv _ W1 I1 H1 e1 S1 h1
theorem dw_or (ha : DT X E a tA) (hb : DW X E (.BoolOp .Or (b :: rest) pos) tB) : DW X E (.BoolOp .Or (a :: b :: rest) pos) (tdOr tA tB) := by
  obtain ⟨t1, p1, d1⟩ := ha.ex
  obtain ⟨t2, p2, d2⟩ := hb.ex
  refine ⟨_, pw_or p1 p2, fun {Z I W H σ ρ Qd Ed Q} S R h sv sx => ?_⟩
  refine d1 S R h (fun k W1 I1 H1 e1 S1 h1 => ?_) sx
  cases k with
  | true =>
    rw [if_pos rfl] at h1 ⊢
    exact sv _ W1 I1 H1 e1 S1 h1
  | false =>
    rw [if_neg Bool.false_ne_true] at h1 ⊢
    exact d2 S1 (R.mono e1) h1 (sv.mono e1) (sx.mono e1)
theorem dw_t (h : DW X E e tA) : DT X E e tA := by
  obtain ⟨t1, p1, d1⟩ := h.ex
  exact ⟨_, p1.pt, d1⟩
theorem dt_not (ha : DT X E a tA) : DT X E (.UnaryOp .Not a pos) (tdNotT tA) := by
  obtain ⟨t1, p1, d1⟩ := ha.ex
  refine ⟨_, pt_not p1, fun {Z I W H σ ρ Qd Ed Q} S R h sv sx => ?_⟩
  exact d1 S R h (fun k W1 I1 H1 e1 S1 h1 => sv _ W1 I1 H1 e1 S1 h1) sx
/-- as values -/
def tdAndV (ta tb : TD) : TD := fun ρ W Q E => ta ρ W (fun x W1 => match x with
  | .bl c => if c = true then tb ρ W1 Q E else Q (.bl false) W1
  | _ => False) E
@[simp ↓] theorem tdAndV_u (ta tb : TD) : ∀ ρ W Q E, tdAndV ta tb ρ W Q E = (ta ρ W (fun x W1 => match x with
  | .bl c => if c = true then tb ρ W1 Q E else Q (.bl false) W1
  | _ => False) E) := fun _ _ _ _ => propext Iff.rfl
def tdOrV (ta tb : TD) : TD := fun ρ W Q E => ta ρ W (fun x W1 => match x with
  | .bl c => if c = true then Q (.bl true) W1 else tb ρ W1 Q E
  | _ => False) E
@[simp ↓] theorem tdOrV_u (ta tb : TD) : ∀ ρ W Q E, tdOrV ta tb ρ W Q E = (ta ρ W (fun x W1 => match x with
  | .bl c => if c = true then Q (.bl true) W1 else tb ρ W1 Q E
  | _ => False) E) := fun _ _ _ _ => propext Iff.rfl
def tdNotV (ta : TD) : TD := fun ρ W Q E => ta ρ W (fun x W1 => match x with
  | .bl c => Q (.bl (!c)) W1
  | _ => False) E
@[simp ↓] theorem tdNotV_u (ta : TD) : ∀ ρ W Q E, tdNotV ta ρ W Q E = (ta ρ W (fun x W1 => match x with
  | .bl c => Q (.bl (!c)) W1
  | _ => False) E) := fun _ _ _ _ => propext Iff.rfl
theorem de_one {op} (h : DE X E a ta) : DE X E (.BoolOp op [a] pos) ta := by
  obtain ⟨t1, p1, d1⟩ := h.ex
  exact ⟨_, pe_one p1, d1⟩
theorem de_and (ha : DE X E a ta) (hb : DE X E (.BoolOp .And (b :: rest) pos) tb) : DE X E (.BoolOp .And (a :: b :: rest) pos) (tdAndV ta tb) := by
  obtain ⟨t1, p1, d1⟩ := ha.ex
  obtain ⟨t2, p2, d2⟩ := hb.ex
  refine ⟨_, pe_and p1 p2, fun {Z I W H σ ρ Qd Ed Q} S R h sv sx => ?_⟩
  refine d1 S R h (fun x W1 v I1 H1 e1 S1 r1 h1 => ?_) sx
  cases x with
  | bl k =>
    cases r1
    refine ⟨k, rfl, ?_⟩
    cases k with
    | true =>
      simp only [if_true] at h1 ⊢
      exact d2 S1 (R.mono e1) h1 (sv.mono e1) (sx.mono e1)
    | false =>
      simp only [Bool.false_eq_true, if_false] at h1 ⊢
      exact sv _ W1 _ I1 H1 e1 S1 (.bl false) h1
  | _ => exact h1.elim
theorem de_or (ha : DE X E a ta) (hb : DE X E (.BoolOp .Or (b :: rest) pos) tb) : DE X E (.BoolOp .Or (a :: b :: rest) pos) (tdOrV ta tb) := by
  obtain ⟨t1, p1, d1⟩ := ha.ex
  obtain ⟨t2, p2, d2⟩ := hb.ex
  refine ⟨_, pe_or p1 p2, fun {Z I W H σ ρ Qd Ed Q} S R h sv sx => ?_⟩
  refine d1 S R h (fun x W1 v I1 H1 e1 S1 r1 h1 => ?_) sx
  cases x with
  | bl k =>
    cases r1
    refine ⟨k, rfl, ?_⟩
    cases k with
    | true =>
      simp only [if_true] at h1 ⊢
      exact sv _ W1 _ I1 H1 e1 S1 (.bl true) h1
    | false =>
      simp only [Bool.false_eq_true, if_false] at h1 ⊢
      exact d2 S1 (R.mono e1) h1 (sv.mono e1) (sx.mono e1)
  | _ => exact h1.elim
theorem de_not (ha : DE X E a ta) : DE X E (.UnaryOp .Not a pos) (tdNotV ta) := by
  obtain ⟨t1, p1, d1⟩ := ha.ex
  refine ⟨_, pe_not p1, fun {Z I W H σ ρ Qd Ed Q} S R h sv sx => ?_⟩
  refine d1 S R h (fun x W1 v I1 H1 e1 S1 r1 h1 => ?_) sx
  cases x with
  | bl k => cases r1; exact ⟨k, rfl, sv _ W1 _ I1 H1 e1 S1 (.bl _) h1⟩
  | _ => exact h1.elim
def tdIf (t : TTd) (ta tb : TD) : TD := fun ρ W Q E => t ρ W (fun c W1 => if c = true then ta ρ W1 Q E else tb ρ W1 Q E) E
@[simp ↓] theorem tdIf_u (t : TTd) (ta tb : TD) : ∀ ρ W Q E, tdIf t ta tb ρ W Q E = (t ρ W (fun c W1 => if c = true then ta ρ W1 Q E else tb ρ W1 Q E) E) := fun _ _ _ _ => propext Iff.rfl
theorem de_if (hc : DT X E c tA) (ha : DE X E a ta) (hb : DE X E b tb) : DE X E (.IfExp c a b pos) (tdIf tA ta tb) := by
  obtain ⟨t0, p0, d0⟩ := hc.ex
  obtain ⟨t1, p1, d1⟩ := ha.ex
  obtain ⟨t2, p2, d2⟩ := hb.ex
  refine ⟨_, pe_ifExp p0 p1 p2, fun {Z I W H σ ρ Qd Ed Q} S R h sv sx => ?_⟩
  refine d0 S R h (fun k W1 I1 H1 e1 S1 h1 => ?_) sx
  cases k with
  | true =>
    rw [if_pos rfl] at h1 ⊢
    exact d1 S1 (R.mono e1) h1 (sv.mono e1) (sx.mono e1)
  | false =>
    rw [if_neg Bool.false_ne_true] at h1 ⊢
    exact d2 S1 (R.mono e1) h1 (sv.mono e1) (sx.mono e1)
/-- one operand -/
abbrev R1d := D → Wd → QD → Prop
structure UnD (X : Cx) (f : Value → Sem Value) (r : R1d) : Prop where
  ex : ∃ rr : V → Hp → VK → Prop, UnR X f rr ∧ ∀ {Z I : Hp} {W : Wd} {H : Hp} {x : D} {v : V} {Qd : QD} {Q : VK}, SR X.K Z I W H → Rep X.K I x v → r x W Qd → SimV X.K Z I Qd Q → rr v H Q
def tdUn (r : R1d) (ta : TD) : TD := fun ρ W Q E => ta ρ W (fun x W1 => r x W1 Q) E
@[simp ↓] theorem tdUn_u (r : R1d) (ta : TD) : ∀ ρ W Q E, tdUn r ta ρ W Q E = (ta ρ W (fun x W1 => r x W1 Q) E) := fun _ _ _ _ => propext Iff.rfl
theorem de_un {op : UnaryOp} {r : R1d} (ho : UnD X (unaryOp op) r) (ha : DE X E a ta) : DE X E (.UnaryOp op a pos) (tdUn r ta) := by
  obtain ⟨rr, pr, dr⟩ := ho.ex
  obtain ⟨t1, p1, d1⟩ := ha.ex
  refine ⟨_, pe_un pr p1, fun {Z I W H σ ρ Qd Ed Q} S R h sv sx => ?_⟩
  exact d1 S R h (fun x W1 v I1 H1 e1 S1 r1 h1 => dr S1 r1 h1 (sv.mono e1)) sx

/-! ### calls of built-ins -/
abbrev RCd := List D → Wd → QD → Prop
structure CallD (X : Cx) (f : Value) (r : RCd) : Prop where
  ex : ∃ rr : List V → Hp → VK → Prop, CallR X f rr ∧ ∀ {Z I : Hp} {W : Wd} {H : Hp} {xs : List D} {vs : List V} {Qd : QD} {Q : VK}, SR X.K Z I W H → RepL X.K I xs vs → r xs W Qd → SimV X.K Z I Qd Q → rr vs H Q
def tdCB (r : RCd) (ta : TAd) : TD := fun ρ W Q E => ta ρ W (fun xs W1 => r xs W1 Q) E
@[simp ↓] theorem tdCB_u (r : RCd) (ta : TAd) : ∀ ρ W Q E, tdCB r ta ρ W Q E = (ta ρ W (fun xs W1 => r xs W1 Q) E) := fun _ _ _ _ => propext Iff.rfl
theorem den_cb {K : PySem.W.Frag} {t : TA} {rr : List V → Hp → VK → Prop} {r : RCd} (d1 : DenA K E t tr)
    (dr : ∀ {Z I : Hp} {W : Wd} {H : Hp} {xs : List D} {vs : List V} {Qd : QD} {Q : VK}, SR K Z I W H → RepL K I xs vs → r xs W Qd → SimV K Z I Qd Q → rr vs H Q) : Den K E (tCB rr t) (tdCB r tr) := fun {Z I W H σ ρ Qd Ed Q} S R h sv sx =>
  d1 S R h (fun xs W1 vs I1 H1 e1 S1 r1 h1 => dr S1 r1 h1 (sv.mono e1)) sx
theorem de_callB {id : String} {x : Str} {p : Pos} {r : RCd} (hc : CallD X (.builtin id) r) (hm : X.mg x = none) (hv : bootBuiltins x = some (.builtin id)) (ha : DA X E (e :: es) tr) (hg : Gl X x := by rfl) (hn : x ≠ "__name__" := by decide) (hdb : (x == ("__debug__" : Str)) = false := by decide)
    (he : starEach (e :: es) X.env = (false, eval e X.env) :: starEach es X.env := by rfl) (hpl : (backTo pos (starEach es X.env)).any (·.1) = false := by rfl) : DE X E (.Call (.Name x p) (e :: es) [] pos) (tdCB r tr) := by
  obtain ⟨rr, pr, dr⟩ := hc.ex
  obtain ⟨t1, p1, d1⟩ := ha.ex
  exact ⟨_, pe_callB pr hg hm hv p1 hn hdb he hpl, den_cb d1 dr⟩
theorem de_callTy {T : String} {x : Str} {p : Pos} {r : RCd} (hc : CallD X (.type T) r) (hm : X.mg x = none) (hv : bootBuiltins x = some (.type T)) (ha : DA X E (e :: es) tr) (hg : Gl X x := by rfl) (hn : x ≠ "__name__" := by decide) (hdb : (x == ("__debug__" : Str)) = false := by decide)
    (he : starEach (e :: es) X.env = (false, eval e X.env) :: starEach es X.env := by rfl) (hpl : (backTo pos (starEach es X.env)).any (·.1) = false := by rfl) : DE X E (.Call (.Name x p) (e :: es) [] pos) (tdCB r tr) := by
  obtain ⟨rr, pr, dr⟩ := hc.ex
  obtain ⟨t1, p1, d1⟩ := ha.ex
  exact ⟨_, pe_callTy pr hg hm hv p1 hn hdb he hpl, den_cb d1 dr⟩
/-- a method of a built-in type -/
abbrev RMd := D → List D → Wd → QD → Prop
structure MtD (X : Cx) (T id : String) (ty : D → Wd → Prop) (r : RMd) : Prop where
  ex : ∃ rr : V → List V → Hp → VK → Prop, MtR X id rr ∧ (∀ {Z I : Hp} {W : Wd} {H : Hp} {x : D} {v : V}, SR X.K Z I W H → Rep X.K I x v → ty x W → tyV X.K T v H) ∧
    ∀ {Z I : Hp} {W : Wd} {H : Hp} {x : D} {v : V} {xs : List D} {vs : List V} {Qd : QD} {Q : VK}, SR X.K Z I W H → Rep X.K I x v → RepL X.K I xs vs → r x xs W Qd → SimV X.K Z I Qd Q → rr v vs H Q
def tdBM (ty : D → Wd → Prop) (r : RMd) (to : TD) (ta : TAd) : TD := fun ρ W Q E => to ρ W (fun x W1 => ty x W1 ∧ ta ρ W1 (fun xs W2 => r x xs W2 Q) E) E
@[simp ↓] theorem tdBM_u (ty : D → Wd → Prop) (r : RMd) (to : TD) (ta : TAd) : ∀ ρ W Q E, tdBM ty r to ta ρ W Q E = (to ρ W (fun x W1 => ty x W1 ∧ ta ρ W1 (fun xs W2 => r x xs W2 Q) E) E) := fun _ _ _ _ => propext Iff.rfl
variable {o : Expr} {to_ : TD} {name : Str} {apos cpos : Pos} {T id : String} {ty : D → Wd → Prop} {rm : RMd}
theorem de_bm (pa : PlainAttrs T) (slot : Slot T name id) (hty : typeOf (.builtin id) = pure (.type "method_descriptor")) (hm : MtD X T id ty rm) (ho : DE X E o to_) (ha : DA X E (e :: es) tr)
    (hbase : attributeBase o name X.env (eval o X.env) = eval o X.env := by rfl)
    (hfew : ((backTo cpos (starEach (e :: es) X.env)).all (fun x => !x.1) && (backToKw cpos (keywordEach [] X.env)).all (fun x => x.1.isSome)
      && decide ((e :: es).length + ([] : List Keyword).length + (if ([] : List Keyword).isEmpty then 0 else 1) < 30)) = true := by rfl)
    (hline : (apos.endLine == cpos.line) = true := by rfl) (hs : starEach (e :: es) X.env = (false, eval e X.env) :: starEach es X.env := by rfl) (hplain : (backTo cpos (starEach es X.env)).any (·.1) = false := by rfl) :
    DE X E (.Call (.Attribute o name apos) (e :: es) [] cpos) (tdBM ty rm to_ tr) := by
  obtain ⟨rr, pr, dty, dr⟩ := hm.ex
  obtain ⟨t1, p1, d1⟩ := ho.ex
  obtain ⟨t2, p2, d2⟩ := ha.ex
  refine ⟨_, pe_bm pa slot hty pr p1 p2 hbase hfew hline hs hplain, fun {Z I W H σ ρ Qd Ed Q} S R h sv sx => ?_⟩
  refine d1 S R h (fun x W1 v I1 H1 e1 S1 r1 h1 => ⟨dty S1 r1 h1.1, ?_⟩) sx
  exact d2 S1 (R.mono e1) h1.2 (fun xs W2 vs I2 H2 e2 S2 r2 h2 => dr S2 (r1.mono e2) r2 h2 (sv.mono (e1.trans e2))) (sx.mono e1)
theorem de_bm0 (pa : PlainAttrs T) (slot : Slot T name id) (hty : typeOf (.builtin id) = pure (.type "method_descriptor")) (hm : MtD X T id ty rm) (ho : DE X E o to_)
    (hbase : attributeBase o name X.env (eval o X.env) = eval o X.env := by rfl) (hline : (apos.endLine == cpos.line) = true := by rfl) :
    DE X E (.Call (.Attribute o name apos) [] [] cpos) (tdBM ty rm to_ tdNil) := by
  obtain ⟨rr, pr, dty, dr⟩ := hm.ex
  obtain ⟨t1, p1, d1⟩ := ho.ex
  refine ⟨_, pe_bm0 pa slot hty pr p1 hbase hline, fun {Z I W H σ ρ Qd Ed Q} S R h sv sx => ?_⟩
  exact d1 S R h (fun x W1 v I1 H1 e1 S1 r1 h1 => ⟨dty S1 r1 h1.1, dr S1 r1 .nil h1.2 (sv.mono e1)⟩) sx
end
end DL

/-! DL3: operators and built-ins over data. -/
namespace DL
open PySem PySem.Spec PyProof.Rows L2

/-! ### == of data -/
mutual
def toPy : D → PyData
  | .non => .none
  | .bl b => .bool b
  | .int i => .int i
  | .str x => .str x
  | .tup xs => .tuple (toPyL xs)
  | .lst xs => .list (toPyL xs)
  | .dk _ => .none
  | .ins _ _ => .none
  | .scr _ => .none
  | .ref _ => .none
  | .dn _ _ => .none
def toPyL : List D → List PyData
  | [] => []
  | x :: xs => toPy x :: toPyL xs
end
mutual
def okD : Nat → D → Bool
  | _, .non => true
  | _, .bl _ => true
  | _, .int _ => true
  | _, .str x => PyData.canLay0 (.str x)
  | 0, .tup _ => false
  | n + 1, .tup xs => okL n xs
  | 0, .lst _ => false
  | n + 1, .lst xs => okL n xs
  | _, .dk _ => false
  | _, .ins _ _ => false
  | _, .scr _ => false
  | _, .ref _ => false
  | _, .dn _ _ => false
def okL : Nat → List D → Bool
  | _, [] => true
  | n, x :: xs => okD n x && okL n xs
end
def eqD (x y : D) : Bool := PyData.eqv (toPy x) (toPy y)
/-- a cell's list as it is -/
def viewW (W : Wd) : D → D
  | .ref a => match W a with
    | some (.lst xs) => .lst xs
    | _ => .ref a
  | d => d
mutual
theorem okD_lay : ∀ (n : Nat) (d : D), okD n d = true → (toPy d).canLay0 = true ∧ (toPy d).depth ≤ n
  | _, .non, _ => by simp [toPy, PyData.canLay0, PyData.depth]
  | _, .bl _, _ => by simp [toPy, PyData.canLay0, PyData.depth]
  | _, .int _, _ => by simp [toPy, PyData.canLay0, PyData.depth]
  | _, .str x, h => by simp [okD] at h; simp [toPy, PyData.depth, h]
  | 0, .tup _, h => by simp [okD] at h
  | n + 1, .tup xs, h => by
    simp only [okD] at h
    obtain ⟨h1, h2⟩ := okL_lay n xs h
    simp only [toPy, PyData.canLay0, PyData.depth]
    exact ⟨h1, by omega⟩
  | 0, .lst _, h => by simp [okD] at h
  | n + 1, .lst xs, h => by
    simp only [okD] at h
    obtain ⟨h1, h2⟩ := okL_lay n xs h
    simp only [toPy, PyData.canLay0, PyData.depth]
    exact ⟨h1, by omega⟩
  | _, .dk _, h => by simp [okD] at h
  | _, .ins _ _, h => by simp [okD] at h
  | _, .scr _, h => by simp [okD] at h
  | _, .ref _, h => by simp [okD] at h
  | _, .dn _ _, h => by simp [okD] at h
theorem okL_lay : ∀ (n : Nat) (d : List D), okL n d = true → PyData.canLayAll0 (toPyL d) = true ∧ PyData.depthAll (toPyL d) ≤ n
  | _, [], _ => by simp [toPyL, PyData.canLayAll0, PyData.depthAll]
  | n, x :: xs, h => by
    simp only [okL, Bool.and_eq_true] at h
    obtain ⟨h1, h2⟩ := okD_lay n x h.1
    obtain ⟨h3, h4⟩ := okL_lay n xs h.2
    simp only [toPyL, PyData.canLayAll0, PyData.depthAll, Bool.and_eq_true]
    exact ⟨⟨h1, h3⟩, by omega⟩
end
theorem okD_shaped {d : D} (h : okD 64 d = true) : SeqAt.shaped (toPy d) = true := by
  obtain ⟨h1, h2⟩ := okD_lay 64 d h
  unfold SeqAt.shaped
  rw [Bool.and_eq_true]
  exact ⟨h1, decide_eq_true h2⟩
section
variable {K : PySem.W.Frag} {Z I H : Hp} {W : Wd}
mutual
theorem dp_of (e : Same I H) : ∀ (n : Nat) (d : D) (v : V), Rep K I d v → okD n d = true → Dp K H v (toPy d)
  | _, .non, _, r, _ => by cases r; exact .non
  | _, .bl _, _, r, _ => by cases r; exact .bl _
  | _, .int _, _, r, _ => by cases r; exact .int _
  | _, .str _, _, r, _ => by cases r; exact .str _
  | 0, .tup _, _, _, h => by simp [okD] at h
  | n + 1, .tup xs, _, r, h => by
    cases r with
    | tup h1 h2 => exact .tup (sqT_same e h1) (dpAll_of e n xs _ h2 (by simpa [okD] using h))
  | 0, .lst _, _, _, h => by simp [okD] at h
  | n + 1, .lst xs, _, r, h => by
    cases r with
    | lst h1 h2 => exact .lst (.inl (.inl (e _ _ h1))) (dpAll_of e n xs _ h2 (by simpa [okD] using h))
  | _, .dk _, _, _, h => by simp [okD] at h
  | _, .ins _ _, _, _, h => by simp [okD] at h
  | _, .scr _, _, _, h => by simp [okD] at h
  | _, .ref _, _, _, h => by simp [okD] at h
  | _, .dn _ _, _, _, h => by simp [okD] at h
theorem dpAll_of (e : Same I H) : ∀ (n : Nat) (d : List D) (v : List V), RepL K I d v → okL n d = true → DpAll K H v (toPyL d)
  | _, [], _, r, _ => by cases r; exact .nil
  | n, x :: xs, _, r, h => by
    simp only [okL, Bool.and_eq_true] at h
    cases r with
    | cons h1 h2 => exact .cons (dp_of e n x _ h1 h.1) (dpAll_of e n xs _ h2 h.2)
end
theorem dp_view (S : SR K Z I W H) {d : D} {v : V} (r : Rep K I d v) (h : okD 64 (viewW W d) = true) : Dp K H v (toPy (viewW W d)) := by
  cases d with
  | ref a =>
    cases r
    cases hx : W a with
    | none => simp [viewW, hx, okD] at h
    | some c =>
      cases c with
      | lst xs =>
        have e : viewW W (.ref a) = .lst xs := by simp [viewW, hx]
        rw [e] at h ⊢
        obtain ⟨_, vs, hv, rv⟩ := S.cell a _ hx
        exact .lst (.inl (.inl hv)) (dpAll_of S.imm 63 xs vs rv (by simpa [okD] using h))
      | ins C fs => simp [viewW, hx, okD] at h
      | dk kvs => simp [viewW, hx, okD] at h
      | xd kvs => simp [viewW, hx, okD] at h
      | dn hs kvs => simp [viewW, hx, okD] at h
      | tab q => simp [viewW, hx, okD] at h
      | fn o c q => simp [viewW, hx, okD] at h
  | _ => exact dp_of S.imm 64 _ _ r h
end
def scalD : D → D → Bool
  | .non, .non => true | .non, .int _ => true | .int _, .non => true | .non, .bl _ => true | .bl _, .non => true | .non, .str _ => true | .str _, .non => true
  | .int _, .int _ => true | .bl _, .bl _ => true | .str _, .str _ => true
  | .int _, .str _ => true | .str _, .int _ => true | .bl _, .str _ => true | .str _, .bl _ => true
  | _, _ => false
theorem scal_eq {K : PySem.W.Frag} {I : Hp} {x y : D} {v u : V} (rx : Rep K I x v) (ry : Rep K I y u) (h : scalD x y = true) : scal v u = true ∧ decide (v = u) = eqD x y := by
  cases x with
  | non =>
    cases rx
    cases y <;> first
      | (simp [scalD] at h; done)
      | (cases ry; simp [scal, eqD, toPy, PyData.eqv])
  | int i =>
    cases rx
    cases y <;> first
      | (simp [scalD] at h; done)
      | (cases ry; simp [scal, eqD, toPy, PyData.eqv]; done)
      | (cases ry; exact ⟨rfl, dec_int⟩)
  | bl i =>
    cases rx
    cases y <;> first
      | (simp [scalD] at h; done)
      | (cases ry; simp [scal, eqD, toPy, PyData.eqv]; done)
      | (cases ry; exact ⟨rfl, dec_bl⟩)
  | str i =>
    cases rx
    cases y <;> first
      | (simp [scalD] at h; done)
      | (cases ry; simp [scal, eqD, toPy, PyData.eqv]; done)
      | (cases ry; exact ⟨rfl, dec_str⟩)
  | _ => cases y <;> simp [scalD] at h
def dEq : R2d := fun x y W Q => (scalD x y = true ∨ (okD 64 (viewW W x) = true ∧ okD 64 (viewW W y) = true)) ∧ Q (.bl (eqD (viewW W x) (viewW W y))) W
@[simp ↓] theorem dEq_u : ∀ x y W Q, dEq x y W Q = ((scalD x y = true ∨ (okD 64 (viewW W x) = true ∧ okD 64 (viewW W y) = true)) ∧ Q (.bl (eqD (viewW W x) (viewW W y))) W) := fun _ _ _ _ => propext Iff.rfl
def dNe : R2d := fun x y W Q => (scalD x y = true ∨ (okD 64 (viewW W x) = true ∧ okD 64 (viewW W y) = true)) ∧ Q (.bl (!eqD (viewW W x) (viewW W y))) W
@[simp ↓] theorem dNe_u : ∀ x y W Q, dNe x y W Q = ((scalD x y = true ∨ (okD 64 (viewW W x) = true ∧ okD 64 (viewW W y) = true)) ∧ Q (.bl (!eqD (viewW W x) (viewW W y))) W) := fun _ _ _ _ => propext Iff.rfl
theorem scal_view {W : Wd} {x y : D} (h : scalD x y = true) : viewW W x = x ∧ viewW W y = y := by
  cases x <;> cases y <;> first
    | exact ⟨rfl, rfl⟩
    | (simp [scalD] at h)
section
variable {X : Cx} {E : XK} {j : Nat}
theorem od_eq (hu : X.A.units + 64 < cLine) : OpD X (compareOp .Eq) dEq := by
  refine ⟨_, op_eq.or (op_eqD hu), fun {Z I W H x y v u Qd Q} S rx ry h sv => ?_⟩
  obtain ⟨h, q⟩ := h
  rcases h with h | ⟨h1, h2⟩
  · obtain ⟨a, b⟩ := scal_eq rx ry h
    obtain ⟨e1, e2⟩ := scal_view (W := W) h
    rw [e1, e2] at q
    exact .inl ⟨a, by rw [b]; exact sv _ W _ I H (Same.refl I) S (.bl _) q⟩
  · exact .inr ⟨_, _, dp_view S rx h1, dp_view S ry h2, okD_shaped h1, okD_shaped h2, sv _ W _ I H (Same.refl I) S (.bl _) q⟩
theorem od_ne (hu : X.A.units + 64 < cLine) : OpD X (compareOp .NotEq) dNe := by
  refine ⟨_, op_ne.or (op_neD hu), fun {Z I W H x y v u Qd Q} S rx ry h sv => ?_⟩
  obtain ⟨h, q⟩ := h
  rcases h with h | ⟨h1, h2⟩
  · obtain ⟨a, b⟩ := scal_eq rx ry h
    obtain ⟨e1, e2⟩ := scal_view (W := W) h
    rw [e1, e2] at q
    exact .inl ⟨a, by rw [b]; exact sv _ W _ I H (Same.refl I) S (.bl _) q⟩
  · exact .inr ⟨_, _, dp_view S rx h1, dp_view S ry h2, okD_shaped h1, okD_shaped h2, sv _ W _ I H (Same.refl I) S (.bl _) q⟩

/-! ### in -/
def rInTD (K : PySem.W.Frag) : R2 := fun x y H Q => ∃ d ds, Dp K H x d ∧ Dp K H y (.tuple ds) ∧ SeqAt.shaped d = true ∧ SeqAt.shaped (.tuple ds) = true ∧ Q (.bl (ds.any fun z => PyData.eqv z d)) H
def rNotInTD (K : PySem.W.Frag) : R2 := fun x y H Q => ∃ d ds, Dp K H x d ∧ Dp K H y (.tuple ds) ∧ SeqAt.shaped d = true ∧ SeqAt.shaped (.tuple ds) = true ∧ Q (.bl (!ds.any fun z => PyData.eqv z d)) H
theorem room_shapedT {A : Around} {d : PyData} {n : Nat} (h : SeqAt.shaped d = true) (hu : A.units + 65 < cLine) : A.units + 1 + min n d.depth < cLine := by
  have h1 := SeqAt.depth_of_shaped h
  have h2 : min n d.depth ≤ d.depth := Nat.min_le_right _ _
  omega
theorem op_inTD (hu : X.A.units + 65 < cLine) : OpR X (compareOp .In) (rInTD X.K) := by
  intro pins s σ H x y v u Q I rx ry h
  obtain ⟨d, ds, hd, he, sd, se, q⟩ := h
  obtain ⟨as, r1⟩ := Dp.reads I d x v hd rx
  obtain ⟨bs, r2⟩ := Dp.reads I (.tuple ds) y u he ry
  exact SeqAt.in_tuple_reads r2 r1 (SeqAt.canLay_of_shaped se) (SeqAt.canLay_of_shaped sd) (room_shapedT sd hu) ⟨.bl _, H, I, rfl, q⟩
theorem op_notInTD (hu : X.A.units + 65 < cLine) : OpR X (compareOp .NotIn) (rNotInTD X.K) := by
  intro pins s σ H x y v u Q I rx ry h
  obtain ⟨d, ds, hd, he, sd, se, q⟩ := h
  obtain ⟨as, r1⟩ := Dp.reads I d x v hd rx
  obtain ⟨bs, r2⟩ := Dp.reads I (.tuple ds) y u he ry
  exact SeqAt.notIn_tuple_reads r2 r1 (SeqAt.canLay_of_shaped se) (SeqAt.canLay_of_shaped sd) (room_shapedT sd hu) ⟨.bl _, H, I, rfl, q⟩
def memD (x : D) (ys : List D) : Bool := ys.any fun z => eqD z x
theorem any_toPyL (x : D) : ∀ ys : List D, ((toPyL ys).any fun z => PyData.eqv z (toPy x)) = memD x ys
  | [] => rfl
  | y :: ys => by
    have ih := any_toPyL x ys
    unfold memD at ih ⊢
    simp only [toPyL, List.any_cons, ih, eqD]
def dIn (neg : Bool) : R2d := fun x y W Q => okD 64 x = true ∧ okD 64 (viewW W y) = true ∧ match viewW W y with
  | .lst ys => Q (.bl (if neg then !memD x ys else memD x ys)) W
  | .tup ys => Q (.bl (if neg then !memD x ys else memD x ys)) W
  | _ => False
@[simp ↓] theorem dIn_u (neg : Bool) : ∀ x y W Q, dIn neg x y W Q = (okD 64 x = true ∧ okD 64 (viewW W y) = true ∧ match viewW W y with
  | .lst ys => Q (.bl (if neg then !memD x ys else memD x ys)) W
  | .tup ys => Q (.bl (if neg then !memD x ys else memD x ys)) W
  | _ => False) := fun _ _ _ _ => propext Iff.rfl
theorem od_in (hu : X.A.units + 65 < cLine) : OpD X (compareOp .In) (dIn false) := by
  refine ⟨_, (op_inD hu).or (op_inTD hu), fun {Z I W H x y v u Qd Q} S rx ry h sv => ?_⟩
  obtain ⟨h1, h2, h⟩ := h
  have d2 := dp_view S ry h2
  have s2 := okD_shaped h2
  have d1 := dp_of S.imm 64 x v rx h1
  have s1 := okD_shaped h1
  cases e : viewW W y with
  | lst ys =>
    rw [e] at d2 s2 h
    simp only [toPy] at d2 s2
    refine .inl ⟨_, _, d1, d2, s1, s2, ?_⟩
    rw [any_toPyL]
    exact sv _ W _ I H (Same.refl I) S (.bl _) h
  | tup ys =>
    rw [e] at d2 s2 h
    simp only [toPy] at d2 s2
    refine .inr ⟨_, _, d1, d2, s1, s2, ?_⟩
    rw [any_toPyL]
    exact sv _ W _ I H (Same.refl I) S (.bl _) h
  | _ => rw [e] at h; exact h.elim
theorem od_notIn (hu : X.A.units + 65 < cLine) : OpD X (compareOp .NotIn) (dIn true) := by
  refine ⟨_, (op_notInD hu).or (op_notInTD hu), fun {Z I W H x y v u Qd Q} S rx ry h sv => ?_⟩
  obtain ⟨h1, h2, h⟩ := h
  have d2 := dp_view S ry h2
  have s2 := okD_shaped h2
  have d1 := dp_of S.imm 64 x v rx h1
  have s1 := okD_shaped h1
  cases e : viewW W y with
  | lst ys =>
    rw [e] at d2 s2 h
    simp only [toPy] at d2 s2
    refine .inl ⟨_, _, d1, d2, s1, s2, ?_⟩
    rw [any_toPyL]
    exact sv _ W _ I H (Same.refl I) S (.bl _) h
  | tup ys =>
    rw [e] at d2 s2 h
    simp only [toPy] at d2 s2
    refine .inr ⟨_, _, d1, d2, s1, s2, ?_⟩
    rw [any_toPyL]
    exact sv _ W _ I H (Same.refl I) S (.bl _) h
  | _ => rw [e] at h; exact h.elim

/-! ### is -/
def isNon : D → Bool
  | .non => true
  | _ => false
theorem isNon_eq {K : PySem.W.Frag} {I : Hp} {x : D} {v : V} (r : Rep K I x v) : decide (v = V.non) = isNon x := by
  cases r <;> simp [isNon]
def dIs (neg : Bool) : R2d := fun x y W Q => match y with
  | .non => Q (.bl (if neg then !isNon x else isNon x)) W
  | .bl b => match x with
    | .bl a => Q (.bl (if neg then !decide (a = b) else decide (a = b))) W
    | _ => False
  | _ => False
@[simp ↓] theorem dIs_u (neg : Bool) : ∀ x y W Q, dIs neg x y W Q = (match y with
  | .non => Q (.bl (if neg then !isNon x else isNon x)) W
  | .bl b => match x with
    | .bl a => Q (.bl (if neg then !decide (a = b) else decide (a = b))) W
    | _ => False
  | _ => False) := fun _ _ _ _ => propext Iff.rfl
theorem od_is : OpD X (compareOp .Is) (dIs false) := by
  refine ⟨_, op_isN.or op_isBl, fun {Z I W H x y v u Qd Q} S rx ry h sv => ?_⟩
  cases y with
  | non =>
    cases ry
    refine .inl ⟨rfl, ?_⟩
    rw [isNon_eq rx]
    exact sv _ W _ I H (Same.refl I) S (.bl _) h
  | bl b =>
    cases ry
    cases x with
    | bl a => cases rx; exact .inr ⟨a, b, rfl, rfl, sv _ W _ I H (Same.refl I) S (.bl _) h⟩
    | _ => exact h.elim
  | _ => exact h.elim
theorem od_isNot : OpD X (compareOp .IsNot) (dIs true) := by
  refine ⟨_, op_notN.or op_notBl, fun {Z I W H x y v u Qd Q} S rx ry h sv => ?_⟩
  cases y with
  | non =>
    cases ry
    refine .inl ⟨rfl, ?_⟩
    rw [isNon_eq rx]
    exact sv _ W _ I H (Same.refl I) S (.bl _) h
  | bl b =>
    cases ry
    cases x with
    | bl a => cases rx; exact .inr ⟨a, b, rfl, rfl, sv _ W _ I H (Same.refl I) S (.bl _) h⟩
    | _ => exact h.elim
  | _ => exact h.elim

/-! ### order -/
def dInts (p : Int → Int → Bool) : R2d := fun x y W Q => match x, y with
  | .int i, .int j => Q (.bl (p i j)) W
  | _, _ => False
@[simp ↓] theorem dInts_u (p : Int → Int → Bool) : ∀ x y W Q, dInts p x y W Q = (match x, y with
  | .int i, .int j => Q (.bl (p i j)) W
  | _, _ => False) := fun _ _ _ _ => propext Iff.rfl
theorem od_ints {op : CmpOp} {p : Int → Int → Bool} (h : OpR X (compareOp op) (rI0 fun i j => .bl (p i j))) : OpD X (compareOp op) (dInts p) := by
  refine ⟨_, h, fun {Z I W H x y v u Qd Q} S rx ry h sv => ?_⟩
  unfold dInts at h
  split at h
  · cases rx; cases ry
    exact ⟨_, _, rfl, rfl, sv _ W _ I H (Same.refl I) S (.bl _) h⟩
  · exact h.elim
@[simp] def dLe : R2d := dInts fun i j => decide (i ≤ j)
@[simp] def dGt : R2d := dInts fun i j => decide (j < i)
@[simp] def dGe : R2d := dInts fun i j => decide (j ≤ i)
theorem od_le : OpD X (compareOp .LtE) dLe := od_ints op_le
theorem od_gt : OpD X (compareOp .Gt) dGt := od_ints op_gt
theorem od_ge : OpD X (compareOp .GtE) dGe := od_ints op_ge
def dLt : R2d := fun x y W Q => match x, y with
  | .int i, .int j => Q (.bl (decide (i < j))) W
  | .tup xs, .tup ys => ∃ ns ms : List Int, xs = ns.map D.int ∧ ys = ms.map D.int ∧ Q (.bl (HT.lexLt ns ms)) W
  | _, _ => False
@[simp ↓] theorem dLt_u : ∀ x y W Q, dLt x y W Q = (match x, y with
  | .int i, .int j => Q (.bl (decide (i < j))) W
  | .tup xs, .tup ys => ∃ ns ms : List Int, xs = ns.map D.int ∧ ys = ms.map D.int ∧ Q (.bl (HT.lexLt ns ms)) W
  | _, _ => False) := fun _ _ _ _ => propext Iff.rfl
theorem od_lt (hu : X.A.units < cLine) : OpD X (compareOp .Lt) dLt := by
  refine ⟨_, op_lt.or (op_ltT hu), fun {Z I W H x y v u Qd Q} S rx ry h sv => ?_⟩
  unfold dLt at h
  split at h
  · cases rx; cases ry
    exact .inl ⟨_, _, rfl, rfl, sv _ W _ I H (Same.refl I) S (.bl _) h⟩
  · obtain ⟨ns, ms, rfl, rfl, q⟩ := h
    cases rx with
    | tup h1 h2 =>
      cases ry with
      | tup h3 h4 =>
        have e1 := h2.ints_of
        have e2 := h4.ints_of
        subst e1 e2
        exact .inr ⟨_, _, ns, ms, rfl, rfl, sqT_same S.imm h1, sqT_same S.imm h3, sv _ W _ I H (Same.refl I) S (.bl _) q⟩
  · exact h.elim

/-! ### arithmetic, concatenation -/
def dAdd : R2d := fun x y W Q => match x, y with
  | .int i, .int j => Q (.int (i + j)) W
  | .str a, .str b => a.length + b.length ≤ sizeLine ∧ Q (.str (a ++ b)) W
  | .tup xs, .tup ys => xs.length + ys.length ≤ sizeLine ∧ Q (.tup (xs ++ ys)) W
  | .lst xs, .lst ys => xs.length + ys.length ≤ sizeLine ∧ Q (.lst (xs ++ ys)) W
  | _, _ => False
@[simp ↓] theorem dAdd_u : ∀ x y W Q, dAdd x y W Q = (match x, y with
  | .int i, .int j => Q (.int (i + j)) W
  | .str a, .str b => a.length + b.length ≤ sizeLine ∧ Q (.str (a ++ b)) W
  | .tup xs, .tup ys => xs.length + ys.length ≤ sizeLine ∧ Q (.tup (xs ++ ys)) W
  | .lst xs, .lst ys => xs.length + ys.length ≤ sizeLine ∧ Q (.lst (xs ++ ys)) W
  | _, _ => False) := fun _ _ _ _ => propext Iff.rfl
theorem od_add : OpD X (binaryOp .Add) dAdd := by
  refine ⟨_, op_add.or (op_add_str.or (op_catA.or op_cat)), fun {Z I W H x y v u Qd Q} S rx ry h sv => ?_⟩
  unfold dAdd at h
  split at h
  · cases rx; cases ry
    exact .inl ⟨_, _, rfl, rfl, sv _ W _ I H (Same.refl I) S (.int _) h⟩
  · cases rx; cases ry
    exact .inr (.inl ⟨_, _, rfl, rfl, h.1, sv _ W _ I H (Same.refl I) S (.str _) h.2⟩)
  · cases rx with
    | tup h1 h2 =>
      cases ry with
      | tup h3 h4 =>
        refine .inr (.inr (.inl ⟨_, _, _, _, rfl, rfl, sqT_same S.imm h1, sqT_same S.imm h3, by rw [← h2.length, ← h4.length]; exact h.1, fun e => ?_, fun _ e => ?_, fun _ _ p hp => ?_⟩))
        · subst e
          cases h2
          exact sv _ W _ I H (Same.refl I) S (.tup h3 h4) h.2
        · subst e
          cases h4
          have q := h.2
          rw [List.append_nil] at q
          exact sv _ W _ I H (Same.refl I) S (.tup h1 h2) q
        · exact sim_tup S (h2.append h4) sv hp h.2
  · cases rx with
    | lst h1 h2 =>
      cases ry with
      | lst h3 h4 =>
        exact .inr (.inr (.inr ⟨_, _, _, _, rfl, rfl, S.imm _ _ h1, S.imm _ _ h3, by rw [← h2.length, ← h4.length]; exact h.1, fun p hp => sim_lst S (h2.append h4) sv hp h.2⟩))
  · exact h.elim
def dSub : R2d := fun x y W Q => match x, y with
  | .int i, .int j => Q (.int (i - j)) W
  | _, _ => False
@[simp ↓] theorem dSub_u : ∀ x y W Q, dSub x y W Q = (match x, y with
  | .int i, .int j => Q (.int (i - j)) W
  | _, _ => False) := fun _ _ _ _ => propext Iff.rfl
theorem od_sub : OpD X (binaryOp .Sub) dSub := by
  refine ⟨_, op_sub, fun {Z I W H x y v u Qd Q} S rx ry h sv => ?_⟩
  unfold dSub at h
  split at h
  · cases rx; cases ry
    exact ⟨_, _, rfl, rfl, sv _ W _ I H (Same.refl I) S (.int _) h⟩
  · exact h.elim
def dMul : R2d := fun x y W Q => match x, y with
  | .int i, .int j => ((-(2 ^ 64) < i ∧ i < 2 ^ 64) ∨ (-(2 ^ 64) < j ∧ j < 2 ^ 64)) ∧ Q (.int (i * j)) W
  | .lst xs, .int k => (0 ≤ k ∧ k ≤ 1000 ∧ xs.length ≤ 1000) ∧ Q (.lst (List.replicate k.toNat xs).flatten) W
  | _, _ => False
@[simp ↓] theorem dMul_u : ∀ x y W Q, dMul x y W Q = (match x, y with
  | .int i, .int j => ((-(2 ^ 64) < i ∧ i < 2 ^ 64) ∨ (-(2 ^ 64) < j ∧ j < 2 ^ 64)) ∧ Q (.int (i * j)) W
  | .lst xs, .int k => (0 ≤ k ∧ k ≤ 1000 ∧ xs.length ≤ 1000) ∧ Q (.lst (List.replicate k.toNat xs).flatten) W
  | _, _ => False) := fun _ _ _ _ => propext Iff.rfl
theorem od_mul : OpD X (binaryOp .Mult) dMul := by
  refine ⟨_, op_mul.or op_rep, fun {Z I W H x y v u Qd Q} S rx ry h sv => ?_⟩
  unfold dMul at h
  split at h
  · cases rx; cases ry
    exact .inl ⟨_, _, rfl, rfl, h.1, sv _ W _ I H (Same.refl I) S (.int _) h.2⟩
  · cases ry
    cases rx with
    | @lst a vs ds h1 h2 =>
      obtain ⟨⟨k1, k2, k3⟩, q⟩ := h
      refine .inr ⟨_, _, vs, rfl, rfl, S.imm _ _ h1, by omega, by omega, ?_, fun p hp => sim_lst S (h2.replicate _) sv hp q⟩
      rw [← h2.length, sizeLine_eq]
      rename_i k
      have : k.toNat ≤ 1000 := by omega
      exact Nat.le_trans (Nat.mul_le_mul k3 this) (by decide)
  · exact h.elim
def dMod : R2d := fun x y W Q => match x, y with
  | .int i, .int j => 0 < j ∧ Q (.int (i % j)) W
  | _, _ => False
@[simp ↓] theorem dMod_u : ∀ x y W Q, dMod x y W Q = (match x, y with
  | .int i, .int j => 0 < j ∧ Q (.int (i % j)) W
  | _, _ => False) := fun _ _ _ _ => propext Iff.rfl
theorem od_mod : OpD X (binaryOp .Mod) dMod := by
  refine ⟨_, op_mod, fun {Z I W H x y v u Qd Q} S rx ry h sv => ?_⟩
  unfold dMod at h
  split at h
  · cases rx; cases ry
    exact ⟨_, _, rfl, rfl, h.1, sv _ W _ I H (Same.refl I) S (.int _) h.2⟩
  · exact h.elim
def dFdiv : R2d := fun x y W Q => match x, y with
  | .int i, .int j => (0 < j ∧ j < 1073741824) ∧ Q (.int (i / j)) W
  | _, _ => False
@[simp ↓] theorem dFdiv_u : ∀ x y W Q, dFdiv x y W Q = (match x, y with
  | .int i, .int j => (0 < j ∧ j < 1073741824) ∧ Q (.int (i / j)) W
  | _, _ => False) := fun _ _ _ _ => propext Iff.rfl
theorem od_fdiv : OpD X (binaryOp .FloorDiv) dFdiv := by
  refine ⟨_, op_fdiv, fun {Z I W H x y v u Qd Q} S rx ry h sv => ?_⟩
  unfold dFdiv at h
  split at h
  · cases rx; cases ry
    exact ⟨_, _, rfl, rfl, h.1, sv _ W _ I H (Same.refl I) S (.int _) h.2⟩
  · exact h.elim
def dPow : R2d := fun x y W Q => match x, y with
  | .int i, .int j => (0 ≤ j ∧ j ≤ 1000000 ∧ i.natAbs < 2 ^ 64) ∧ Q (.int (i ^ j.toNat)) W
  | _, _ => False
@[simp ↓] theorem dPow_u : ∀ x y W Q, dPow x y W Q = (match x, y with
  | .int i, .int j => (0 ≤ j ∧ j ≤ 1000000 ∧ i.natAbs < 2 ^ 64) ∧ Q (.int (i ^ j.toNat)) W
  | _, _ => False) := fun _ _ _ _ => propext Iff.rfl
theorem od_pow : OpD X (binaryOp .Pow) dPow := by
  refine ⟨_, op_pow, fun {Z I W H x y v u Qd Q} S rx ry h sv => ?_⟩
  unfold dPow at h
  split at h
  · cases rx; cases ry
    exact ⟨_, _, rfl, rfl, h.1, sv _ W _ I H (Same.refl I) S (.int _) h.2⟩
  · exact h.elim
def dNeg : R1d := fun x W Q => match x with
  | .int i => Q (.int (-i)) W
  | _ => False
@[simp ↓] theorem dNeg_u : ∀ x W Q, dNeg x W Q = (match x with
  | .int i => Q (.int (-i)) W
  | _ => False) := fun _ _ _ => propext Iff.rfl
theorem ud_neg : UnD X (unaryOp .USub) dNeg := by
  refine ⟨_, un_neg, fun {Z I W H x v Qd Q} S rx h sv => ?_⟩
  cases x with
  | int i => cases rx; exact ⟨_, rfl, sv _ W _ I H (Same.refl I) S (.int _) h⟩
  | _ => exact h.elim

/-! ### places, slices -/
def getI {α : Type} (xs : List α) (i : Int) : Option α := if 0 ≤ i then xs[i.toNat]? else if 0 ≤ i + xs.length then xs[(i + xs.length).toNat]? else none
theorem getI_atI {α : Type} {xs : List α} {i : Int} {d : α} (h : getI xs i = some d) : ∃ k, ixN xs.length i = some k ∧ xs[k]? = some d := by
  unfold getI at h
  unfold ixN
  split at h
  · rename_i h0
    have hl := (List.getElem?_eq_some_iff.mp h).1
    rw [if_pos h0, if_pos (by omega)]
    exact ⟨_, rfl, h⟩
  · rename_i h0
    split at h
    · rename_i h1
      rw [if_neg h0, if_pos (by omega)]
      exact ⟨_, rfl, h⟩
    · cases h
theorem atI_of {α : Type} {xs : List α} {n : Nat} {k : Nat} {i : Int} {v : α} (e : ixN n i = some k) (hn : n = xs.length) (h : xs[k]? = some v) : atI xs i = some v := by
  unfold atI
  rw [← hn, e]
  exact h
def dIx : R2d := fun x y W Q => match x, y with
  | .lst xs, .int i => match getI xs i with
    | some d => Q d W
    | none => False
  | .tup xs, .int i => match getI xs i with
    | some d => Q d W
    | none => False
  | .scr ns, .int i => match getI ns i with
    | some n => Q (.int n) W
    | none => False
  | .ref a, .int i => match W a with
    | some (.lst xs) => match getI xs i with
      | some d => Q d W
      | none => False
    | _ => False
  | .dk kvs, .str s => match kvs.lookup s with
    | some d => Q d W
    | none => False
  | .ref a, .str s => match W a with
    | some (.dk kvs) => match kvs.lookup s with
      | some d => Q d W
      | none => False
    | _ => False
  | _, _ => False
def rIxDk : R2 := fun x y H Q => ∃ a v, x = .ref a ∧ DGet H a y (some v) ∧ Q v H
theorem ix_dict (hu : X.A.units + 1 < cLine) : IxR X rIxDk := by
  intro value slice pins s σ H x y v u Q I rx ry h hs
  obtain ⟨a, z, rfl, g, q⟩ := h
  cases rx
  exact tail_any (dict_typeIs I g) PySem.F.slot_dict_getitem.lookup (d_getItem hu I g ry fun w' s3 I3 rw' => ⟨z, H, I3, rw', q⟩) hs
variable {a b e : Expr} {ta tb te : TD} {pos : Pos}
theorem de_ix (c : Ct X E j) (ha : DE X E a ta) (hb : DE X E b tb) (hs : PlainIx b := by exact fun _ _ => rfl) : DE X E (.Subscript a b pos) (tdOp dIx ta tb) := by
  obtain ⟨t1, p1, d1⟩ := ha.ex
  obtain ⟨t2, p2, d2⟩ := hb.ex
  refine ⟨_, pe_ix (ix_list.or (ix_tup.or (ix_dict c.hu))) p1 p2 hs, den_op d1 d2 fun {Z I W H x y v u Qd Q} S rx ry h sv => ?_⟩
  have lst : ∀ {p : Addr} {vs : List V} {ds : List D} {i : Int}, SqL X.K H p vs → RepL X.K I ds vs → (match getI ds i with
      | some d => Qd d W
      | none => False) → ∃ k w, ixN vs.length i = some k ∧ vs[k]? = some w ∧ Q w H := fun {p vs ds i} hs rl hq => by
    cases e : getI ds i with
    | none => rw [e] at hq; exact hq.elim
    | some d =>
      rw [e] at hq
      obtain ⟨k, e1, e2⟩ := getI_atI e
      obtain ⟨w, e3, r⟩ := rl.get e2
      exact ⟨k, w, by rw [← rl.length]; exact e1, e3, sv _ W _ I H (Same.refl I) S r hq⟩
  cases x with
  | lst xs =>
    cases y with
    | int i =>
      cases ry
      cases rx with
      | @lst p vs _ h1 h2 =>
        have hl : SqL X.K H p vs := .inl (.inl (S.imm _ _ h1))
        obtain ⟨k, w, e1, e2, q⟩ := lst hl h2 h
        exact .inl ⟨_, vs, i, w, rfl, rfl, hl, atI_of e1 rfl e2, q⟩
    | _ => exact h.elim
  | tup xs =>
    cases y with
    | int i =>
      cases ry
      cases rx with
      | @tup p vs _ h1 h2 =>
        cases e : getI xs i with
        | none => simp only [dIx, e] at h
        | some d =>
          simp only [dIx, e] at h
          obtain ⟨k, e1, e2⟩ := getI_atI e
          obtain ⟨w, e3, r⟩ := h2.get e2
          exact .inr (.inl ⟨_, vs, i, w, rfl, rfl, sqT_same S.imm h1, atI_of e1 h2.length e3, sv _ W _ I H (Same.refl I) S r h⟩)
    | _ => exact h.elim
  | scr ns =>
    cases y with
    | int i =>
      cases ry
      cases rx with
      | @scr p _ h1 =>
        cases e : getI ns i with
        | none => simp only [dIx, e] at h
        | some n =>
          simp only [dIx, e] at h
          obtain ⟨k, e1, e2⟩ := getI_atI e
          exact .inl ⟨_, ns.map V.int, i, .int n, rfl, rfl, sqL_same S.imm h1, atI_of e1 (by simp) (by rw [List.getElem?_map, e2]; rfl), sv _ W _ I H (Same.refl I) S (.int n) h⟩
    | _ => exact h.elim
  | dk kvs =>
    cases y with
    | str z =>
      cases ry
      cases rx with
      | @dk p kv _ h1 h2 =>
        cases e : kvs.lookup z with
        | none => simp only [dIx, e] at h
        | some d =>
          simp only [dIx, e] at h
          obtain ⟨w, e1, r⟩ := h2.val e
          have g := DGet.k (k := (Sum.inr z : Key)) (S.imm _ _ h1)
          rw [e1] at g
          exact .inr (.inr ⟨p, w, rfl, g, sv _ W _ I H (Same.refl I) S r h⟩)
    | _ => exact h.elim
  | ref p =>
    cases rx
    cases y with
    | int i =>
      cases ry
      cases hw : W p with
      | none => simp only [dIx, hw] at h
      | some cc =>
        cases cc with
        | lst xs =>
          simp only [dIx, hw] at h
          obtain ⟨_, vs, hv, rv⟩ := S.cell p _ hw
          have hl : SqL X.K H p vs := .inl (.inl hv)
          obtain ⟨k, w, e1, e2, q⟩ := lst hl rv h
          exact .inl ⟨_, vs, i, w, rfl, rfl, hl, atI_of e1 rfl e2, q⟩
        | ins C fs => simp only [dIx, hw] at h
        | dk kvs => simp only [dIx, hw] at h
        | xd kvs => simp only [dIx, hw] at h
        | dn hs kvs => simp only [dIx, hw] at h
        | tab q => simp only [dIx, hw] at h
        | fn o c q => simp only [dIx, hw] at h
    | str z =>
      cases ry
      cases hw : W p with
      | none => simp only [dIx, hw] at h
      | some cc =>
        cases cc with
        | lst xs => simp only [dIx, hw] at h
        | ins C fs => simp only [dIx, hw] at h
        | dk kvs =>
          cases e : kvs.lookup z with
          | none => simp only [dIx, hw, e] at h
          | some d =>
            simp only [dIx, hw, e] at h
            obtain ⟨_, kv, hv, rv⟩ := S.cell p _ hw
            obtain ⟨w, e1, r⟩ := rv.val e
            have g := DGet.k (k := (Sum.inr z : Key)) hv
            rw [e1] at g
            exact .inr (.inr ⟨p, w, rfl, g, sv _ W _ I H (Same.refl I) S r h⟩)
        | xd fs => simp only [dIx, hw] at h
        | dn hs kvs => simp only [dIx, hw] at h
        | tab q => simp only [dIx, hw] at h
        | fn o c q => simp only [dIx, hw] at h
    | _ => exact h.elim
  | _ => exact h.elim

/-! ### slices -/
def cutD {α : Type} (xs : List α) (lo hi : Option Int) : List α := (xs.drop (HT.sIx xs.length 0 lo)).take (HT.sIx xs.length xs.length hi - HT.sIx xs.length 0 lo)
abbrev TOd := DEnv → Wd → (Option Int → Wd → Prop) → XD → Prop
def DenO (K : PySem.W.Frag) (E : XK) (t : TO) (td : TOd) : Prop := ∀ {Z I : Hp} {W : Wd} {H : Hp} {σ : L2.St} {ρ : DEnv} {Qd : Option Int → Wd → Prop} {Ed : XD} {Q : Option Int → Hp → Prop}, SR K Z I W H → EnvR K I σ ρ → td ρ W Qd Ed → (∀ o W I' H, Same I I' → SR K Z I' W H → Qd o W → Q o H) → SimX K Z I Ed E → t σ H Q
structure DO (X : Cx) (E : XK) (e : Option Expr) (td : TOd) : Prop where
  ex : ∃ t : TO, PO X e t ∧ DenO X.K E t td
def tdNoPart : TOd := fun _ W Q _ => Q none W
@[simp ↓] theorem tdNoPart_u : ∀ u_0 W Q u_1, tdNoPart u_0 W Q u_1 = (Q none W) := fun _ _ _ _ => propext Iff.rfl
def tdPart (t : TD) : TOd := fun ρ W Q E => t ρ W (fun x W1 => match x with
  | .int i => Q (some i) W1
  | _ => False) E
@[simp ↓] theorem tdPart_u (t : TD) : ∀ ρ W Q E, tdPart t ρ W Q E = (t ρ W (fun x W1 => match x with
  | .int i => Q (some i) W1
  | _ => False) E) := fun _ _ _ _ => propext Iff.rfl
theorem do_none : DO X E none tdNoPart := ⟨_, po_none, fun {Z I W H σ ρ Qd Ed Q} S R h sv sx => sv none W I H (Same.refl I) S h⟩
theorem do_some (h : DE X E e te) : DO X E (some e) (tdPart te) := by
  obtain ⟨t1, p1, d1⟩ := h.ex
  refine ⟨_, po_some p1, fun {Z I W H σ ρ Qd Ed Q} S R h sv sx => ?_⟩
  refine d1 S R h (fun x W1 v I1 H1 e1 S1 r1 h1 => ?_) sx
  cases x with
  | int i => cases r1; exact ⟨i, rfl, sv _ W1 I1 H1 e1 S1 h1⟩
  | _ => exact h1.elim
def dSl : D → Option Int → Option Int → Wd → QD → Prop := fun x lo hi W Q => match x with
  | .lst xs => Q (.lst (cutD xs lo hi)) W
  | .tup xs => Q (.tup (cutD xs lo hi)) W
  | .ref a => match W a with
    | some (.lst xs) => Q (.lst (cutD xs lo hi)) W
    | _ => False
  | _ => False
@[simp ↓] theorem dSl_u : ∀ x lo hi W Q, dSl x lo hi W Q = (match x with
  | .lst xs => Q (.lst (cutD xs lo hi)) W
  | .tup xs => Q (.tup (cutD xs lo hi)) W
  | .ref a => match W a with
    | some (.lst xs) => Q (.lst (cutD xs lo hi)) W
    | _ => False
  | _ => False) := fun _ _ _ _ _ => propext Iff.rfl
def tdSl (te : TD) (tl th : TOd) : TD := fun ρ W Q E => te ρ W (fun x W1 => tl ρ W1 (fun l W2 => th ρ W2 (fun u W3 => dSl x l u W3 Q) E) E) E
@[simp ↓] theorem tdSl_u (te : TD) (tl th : TOd) : ∀ ρ W Q E, tdSl te tl th ρ W Q E = (te ρ W (fun x W1 => tl ρ W1 (fun l W2 => th ρ W2 (fun u W3 => dSl x l u W3 Q) E) E) E) := fun _ _ _ _ => propext Iff.rfl
theorem cut_rep {K : PySem.W.Frag} {I : Hp} {ds : List D} {vs : List V} (r : RepL K I ds vs) (lo hi : Option Int) : RepL K I (cutD ds lo hi) (cutV vs lo hi) := by
  unfold cutD cutV
  rw [r.length]
  exact (r.drop _).take _
theorem de_slice {lo hi : Option Expr} {tl th : TOd} {p2 : Pos} (he : DE X E e te) (hl : DO X E lo tl) (hh : DO X E hi th) : DE X E (.Subscript e (.Slice lo hi none p2) pos) (tdSl te tl th) := by
  obtain ⟨t1, p1, d1⟩ := he.ex
  obtain ⟨t2, p2', d2⟩ := hl.ex
  obtain ⟨t3, p3, d3⟩ := hh.ex
  refine ⟨_, pe_slice (sl_list.or sl_tupA) p1 p2' p3, fun {Z I W H σ ρ Qd Ed Q} S R h sv sx => ?_⟩
  refine d1 S R h (fun x W1 v I1 H1 e1 S1 r1 h1 => ?_) sx
  refine d2 S1 (R.mono e1) h1 (fun l W2 I2 H2 e2 S2 h2 => ?_) (sx.mono e1)
  refine d3 S2 (R.mono (e1.trans e2)) h2 (fun u W3 I3 H3 e3 S3 h3 => ?_) (sx.mono (e1.trans e2))
  have e13 := e1.trans (e2.trans e3)
  have r3 := r1.mono (e2.trans e3)
  unfold dSl at h3
  split at h3
  · cases r3 with
    | lst q1 q2 => exact .inl ⟨_, _, rfl, .inl (.inl (S3.imm _ _ q1)), fun p hp => sim_lst S3 (cut_rep q2 l u) (sv.mono e13) hp h3⟩
  · cases r3 with
    | @tup a vs ds q1 q2 =>
      refine .inr ⟨_, _, rfl, sqT_same S3.imm q1, fun e => ?_, fun _ p hp => sim_tup S3 (cut_rep q2 l u) (sv.mono e13) hp h3⟩
      have ec : ∀ ds : List D, ds.length = vs.length → cutD ds l u = ds := fun ds hl => by
        unfold cutD
        rw [hl, e.1, e.2, List.drop_zero, Nat.sub_zero, ← hl, List.take_length]
      rw [ec _ q2.length] at h3
      exact sv _ W3 _ I3 H3 e13 S3 (.tup q1 q2) h3
  · cases r3
    split at h3
    · rename_i hw
      obtain ⟨_, vs, hv, rv⟩ := S3.cell _ _ hw
      exact .inl ⟨_, _, rfl, .inl (.inl hv), fun p hp => sim_lst S3 (cut_rep rv l u) (sv.mono e13) hp h3⟩
    · exact h3.elim
  · exact h3.elim
end
end DL

/-! DL4: built-ins by name, attributes, displays of dicts, methods of lists. -/
namespace DL
open PySem PySem.Spec PyProof.Rows L2

/-! ### model: sorted of a tuple -/
section
variable {prog : Program} {w : World} {A : Around} {E : Value → Shared → Prop} {s : Shared}
theorem collect_tup {l : Addr} {vs : List Value} {Q : List Value → Shared → Prop} (hl : IsTup s.heap l vs.toArray)
    (h : Q vs { s with heap := (s.heap.push (seqObj "list" #[] 0)).update s.heap.objs.size (Obj.mapSeq (· ++ vs.toArray)) }) (hsz : vs.length ≤ sizeLine) :
    wpAny (model prog w) A (collect (.ref l)) Q E s := by
  obtain ⟨o, ho, hc, n, hd⟩ := id hl
  unfold collect
  refine wpAny_bind (wpAny_runValue (codeAny_builtin entry_proto_collect' ?_))
  show wpAny _ _ (do again (.builtin "list.__iadd__" ⟨[← newList [], .ref l], []⟩)) _ _ s
  refine wpAny_bind (wpAny_newList (wpAny_pure ⟨Code.quiet_builtin _ (by decide +kernel), codeAny_builtin entry_list_iadd' ?_⟩))
  show wpAny _ _ (Builtin.List.listExtendWith (.ref s.heap.objs.size) (.ref l) (.ref s.heap.objs.size)) _ _ { s with heap := s.heap.push (seqObj "list" #[] 0) }
  unfold Builtin.List.listExtendWith
  have ho' : (s.heap.push (seqObj "list" #[] 0)).get? l = some o := Heap.get?_push_of_some _ ho
  refine wpAny_bind (wpAny_typeOf (T := "tuple") ⟨o, ho', hc⟩ ?_)
  have ht : (Value.type "tuple" == Value.type "tuple") = true := by rfl
  rw [if_pos (by rw [ht]; simp)]
  refine wpAny_bind (listItems_at ho' hd ?_)
  refine wpAny_bind (listItems_at (xs := #[]) (n := 0) (Heap.get?_push_size _ rfl) rfl ?_)
  rw [if_neg (by simp)]
  refine wpAny_bind (listUpdate_at (xs := #[]) (n := 0) (Heap.get?_push_size _ rfl) rfl ?_ (Nat.zero_le _) (by show (#[] ++ vs.toArray).size ≤ sizeLine + 1; simp only [Array.size_append, List.size_toArray, List.length_nil]; omega))
  refine wpAny_pure ?_
  show wpAny (model prog w) A (do
      let o ← load s.heap.objs.size
      match o.data with
      | .seq xs _ => pure xs.toList
      | _ => unsupported "internal:collect") Q E { s with heap := (s.heap.push (seqObj "list" #[] 0)).update s.heap.objs.size (Obj.mapSeq (· ++ vs.toArray)) }
  refine wpAny_bind (wpAny_load (get?_update_seq (Heap.get?_push_size _ rfl) _) ?_)
  show wpAny _ _ (pure ((#[] : Array Value) ++ vs.toArray).toList) Q E _
  rw [show ((#[] : Array Value) ++ vs.toArray).toList = vs by simp]
  exact wpAny_pure h
theorem sorted_tup_ints {l : Addr} {vs : List Value} {ns : List Int} {Q : Value → Shared → Prop} (hl : IsTup s.heap l vs.toArray) (hI : IntsAre vs ns) (h64 : vs.length < 64)
    (h : ∀ (out : Array Value) (ns' : List Int), IntsAre out.toList ns' → ns'.Perm ns → ns'.Pairwise (· ≤ ·) → Q (.ref (s.heap.objs.size + 1)) { s with heap := sortedAll s.heap vs out }) :
    wpAny (model prog w) A (call (.builtin "sorted") [.ref l]) Q E s := by
  have hz : vs.length ≤ sizeLine := by rw [sizeLine_eq]; omega
  refine Calls.call_function_entry kind_sorted plain_sorted entry_sorted (args_sorted1 _) ?_
  unfold Builtin.«sorted»
  refine wpAny_bind (m := checkCount "sorted" 1 1 _) (wpAny_pure ?_)
  refine wpAny_bind (collect_tup hl ?_ hz)
  refine wpAny_bind (wpAny_newList ?_ hz)
  have hsz : ((s.heap.push (seqObj "list" #[] 0)).update s.heap.objs.size (Obj.mapSeq (· ++ vs.toArray))).objs.size = s.heap.objs.size + 1 := by
    rw [Heap.size_update, size_push']
  have hoL : (((s.heap.push (seqObj "list" #[] 0)).update s.heap.objs.size (Obj.mapSeq (· ++ vs.toArray))).push (seqObj "list" vs.toArray 0)).get? (s.heap.objs.size + 1) = some (seqObj "list" vs.toArray 0) := by
    rw [← hsz]; exact Heap.get?_push_size _ rfl
  show wpAny _ _ _ _ _ { s with heap := ((s.heap.push (seqObj "list" #[] 0)).update s.heap.objs.size (Obj.mapSeq (· ++ vs.toArray))).push (seqObj "list" vs.toArray 0) }
  rw [hsz]
  refine wpAny_bind (wpAny_holding (wpAny_call_entry slot_list_sort ⟨_, hoL, rfl⟩ entry_list_sort (list_sort_tree hoL hI h64 fun out ns' a1 a2 a3 => ⟨_, rfl, ?_⟩) (args_list_sort _)))
  exact wpAny_pure ⟨_, rfl, h out ns' a1 a2 a3⟩
end
def rSortedT (K : PySem.W.Frag) : List V → Hp → VK → Prop := fun vs H Q => ∃ (a : Addr) (ns : List Int), vs = [V.ref a] ∧ SqT K H a (ns.map V.int) ∧ ns.length < 64 ∧
  ∀ (ns' : List Int) (p : Addr), ns'.Perm ns → ns'.Pairwise (· ≤ ·) → H p = none → Q (.ref p) (upd H p (.lst (ns'.map V.int)))
section
variable {X : Cx} {E : XK} {j : Nat}
theorem cr_sortedTI : CallR X (.builtin "sorted") (rSortedT X.K) := by
  intro pins s σ H vs us Q I r h
  obtain ⟨a, ns, rfl, hs, h64, q⟩ := h
  obtain ⟨its, rv, hl, _⟩ := I.tuple hs
  rw [Vals.ref1 r]
  have hi := rv.ints
  refine sorted_tup_ints hl hi (by rw [hi.length]; exact h64) fun out ns' h1 h2 h3 => ?_
  obtain ⟨ep, he'⟩ := PyProof.Rows.sortedAll_at s.heap its out
  have hlen : (ns'.map V.int).length ≤ sizeLine := by rw [List.length_map, h2.length_eq, sizeLine_eq]; omega
  exact ⟨.ref _, upd H (s.heap.objs.size + 1) (.lst (ns'.map V.int)), I.laid (t' := s.toks) (fun _ _ => PyProof.Rows.sortedAll_old) (Nat.le_succ _) ⟨hlen, out.toList, ep, vals_of_ints h1, he'⟩, rfl, q ns' _ h2 h3 (I.hok.fresh (Nat.le_succ _))⟩
end

/-! ### ints in order -/
def insI (a : Int) : List Int → List Int
  | [] => [a]
  | b :: l => if a ≤ b then a :: b :: l else b :: insI a l
def sortI : List Int → List Int
  | [] => []
  | a :: l => insI a (sortI l)
theorem insI_perm (a : Int) : ∀ l, (insI a l).Perm (a :: l)
  | [] => List.Perm.refl _
  | b :: l => by
    unfold insI
    split
    · exact List.Perm.refl _
    · exact ((insI_perm a l).cons b).trans (List.Perm.swap a b l)
theorem sortI_perm : ∀ l, (sortI l).Perm l
  | [] => List.Perm.refl _
  | a :: l => (insI_perm a (sortI l)).trans ((sortI_perm l).cons a)
theorem insI_sorted (a : Int) : ∀ l, l.Pairwise (· ≤ ·) → (insI a l).Pairwise (· ≤ ·)
  | [], _ => List.pairwise_singleton _ _
  | b :: l, h => by
    obtain ⟨h1, h2⟩ := List.pairwise_cons.mp h
    unfold insI
    split
    · rename_i hab
      refine List.pairwise_cons.mpr ⟨fun c hc => ?_, h⟩
      rcases List.mem_cons.mp hc with rfl | hc
      · exact hab
      · exact Int.le_trans hab (h1 c hc)
    · rename_i hab
      refine List.pairwise_cons.mpr ⟨fun c hc => ?_, insI_sorted a l h2⟩
      rcases List.mem_cons.mp ((insI_perm a l).mem_iff.mp hc) with rfl | hc
      · omega
      · exact h1 c hc
theorem sortI_sorted : ∀ l, (sortI l).Pairwise (· ≤ ·)
  | [] => List.Pairwise.nil
  | a :: l => insI_sorted a _ (sortI_sorted l)
theorem sorted_one : ∀ {l m : List Int}, l.Perm m → l.Pairwise (· ≤ ·) → m.Pairwise (· ≤ ·) → l = m
  | [], m, p, _, _ => by rw [p.nil_eq]
  | a :: l, m, p, h1, h2 => by
    obtain ⟨b, m', rfl⟩ : ∃ b m', m = b :: m' := by
      cases m with
      | nil => exact absurd p.length_eq (by simp)
      | cons b m' => exact ⟨b, m', rfl⟩
    obtain ⟨a1, a2⟩ := List.pairwise_cons.mp h1
    obtain ⟨b1, b2⟩ := List.pairwise_cons.mp h2
    have e : a = b := by
      have x1 : a ∈ b :: m' := p.mem_iff.mp List.mem_cons_self
      have x2 : b ∈ a :: l := p.mem_iff.mpr List.mem_cons_self
      rcases List.mem_cons.mp x1 with e | x1
      · exact e
      · rcases List.mem_cons.mp x2 with e | x2
        · exact e.symm
        · exact Int.le_antisymm (a1 _ x2) (b1 _ x1)
    subst e
    rw [sorted_one (p.cons_inv) a2 b2]
theorem sortI_of {l m : List Int} (p : l.Perm m) (h : l.Pairwise (· ≤ ·)) : l = sortI m := sorted_one (p.trans (sortI_perm m).symm) h (sortI_sorted m)

section
variable {X : Cx} {E : XK} {j : Nat}

/-! ### calls -/
def lenD (W : Wd) : D → Option Nat
  | .lst xs => some xs.length
  | .tup xs => some xs.length
  | .scr ns => some ns.length
  | .ref a => match W a with
    | some (.lst xs) => some xs.length
    | _ => none
  | _ => none
def dLen : RCd := fun xs W Q => match xs with
  | [x] => match lenD W x with
    | some n => Q (.int n) W
    | none => False
  | _ => False
@[simp ↓] theorem dLen_u : ∀ xs W Q, dLen xs W Q = (match xs with
  | [x] => match lenD W x with
    | some n => Q (.int n) W
    | none => False
  | _ => False) := fun _ _ _ => propext Iff.rfl
theorem rep1 {K : PySem.W.Frag} {I : Hp} {x : D} {vs : List V} (r : RepL K I [x] vs) : ∃ v, vs = [v] ∧ Rep K I x v := by
  cases r with
  | cons h t => cases t; exact ⟨_, rfl, h⟩
theorem rep2 {K : PySem.W.Frag} {I : Hp} {x y : D} {vs : List V} (r : RepL K I [x, y] vs) : ∃ v u, vs = [v, u] ∧ Rep K I x v ∧ Rep K I y u := by
  cases r with
  | cons h t =>
    cases t with
    | cons h2 t => cases t; exact ⟨_, _, rfl, h, h2⟩
/-- a value that is read as a list or a tuple -/
theorem seq_of {K : PySem.W.Frag} {Z I H : Hp} {W : Wd} {x : D} {v : V} {n : Nat} (S : SR K Z I W H) (r : Rep K I x v) (h : lenD W x = some n) : ∃ p ys, v = .ref p ∧ (SqL K H p ys ∨ SqT K H p ys) ∧ ys.length = n := by
  cases x with
  | lst xs =>
    cases r with
    | lst h1 h2 => exact ⟨_, _, rfl, .inl (.inl (.inl (S.imm _ _ h1))), by rw [← h2.length]; exact Option.some.inj h⟩
  | tup xs =>
    cases r with
    | tup h1 h2 => exact ⟨_, _, rfl, .inr (sqT_same S.imm h1), by rw [← h2.length]; exact Option.some.inj h⟩
  | scr ns =>
    cases r with
    | scr h1 => exact ⟨_, _, rfl, .inl (sqL_same S.imm h1), by rw [List.length_map]; exact Option.some.inj h⟩
  | ref a =>
    cases r
    cases hw : W a with
    | none => simp [lenD, hw] at h
    | some c =>
      cases c with
      | lst xs =>
        simp [lenD, hw] at h
        obtain ⟨_, vs, hv, rv⟩ := S.cell a _ hw
        exact ⟨_, _, rfl, .inl (.inl (.inl hv)), by rw [← rv.length]; exact h⟩
      | ins C fs => simp [lenD, hw] at h
      | dk kvs => simp [lenD, hw] at h
      | xd kvs => simp [lenD, hw] at h
      | dn hs kvs => simp [lenD, hw] at h
      | tab q => simp [lenD, hw] at h
      | fn o c q => simp [lenD, hw] at h
  | _ => simp [lenD] at h
theorem cd_len : CallD X (.builtin "len") dLen := by
  refine ⟨_, call_len_seq, fun {Z I W H xs vs Qd Q} S r h sv => ?_⟩
  unfold dLen at h
  split at h
  · rename_i x
    obtain ⟨v, rfl, rx⟩ := rep1 r
    cases e : lenD W x with
    | none => rw [e] at h; exact h.elim
    | some n =>
      rw [e] at h
      obtain ⟨p, ys, rfl, hs, hl⟩ := seq_of S rx e
      exact ⟨p, ys, rfl, hs, by rw [hl]; exact sv _ W _ I H (Same.refl I) S (.int _) h⟩
  · exact h.elim
/-- the items of a list, a tuple -/
def itemsD (W : Wd) : D → Option (List D)
  | .lst xs => some xs
  | .tup xs => some xs
  | .ref a => match W a with
    | some (.lst xs) => some xs
    | _ => none
  | _ => none
theorem items_of {K : PySem.W.Frag} {Z I H : Hp} {W : Wd} {x : D} {v : V} {ds : List D} (S : SR K Z I W H) (r : Rep K I x v) (h : itemsD W x = some ds) : ∃ p ys, v = .ref p ∧ (SqL K H p ys ∨ SqT K H p ys) ∧ RepL K I ds ys := by
  cases x with
  | lst xs =>
    cases r with
    | lst h1 h2 => cases h; exact ⟨_, _, rfl, .inl (.inl (.inl (S.imm _ _ h1))), h2⟩
  | tup xs =>
    cases r with
    | tup h1 h2 => cases h; exact ⟨_, _, rfl, .inr (sqT_same S.imm h1), h2⟩
  | ref a =>
    cases r
    cases hw : W a with
    | none => simp [itemsD, hw] at h
    | some c =>
      cases c with
      | lst xs =>
        simp [itemsD, hw] at h
        subst h
        obtain ⟨_, vs, hv, rv⟩ := S.cell a _ hw
        exact ⟨_, _, rfl, .inl (.inl (.inl hv)), rv⟩
      | ins C fs => simp [itemsD, hw] at h
      | dk kvs => simp [itemsD, hw] at h
      | xd kvs => simp [itemsD, hw] at h
      | dn hs kvs => simp [itemsD, hw] at h
      | tab q => simp [itemsD, hw] at h
      | fn o c q => simp [itemsD, hw] at h
  | _ => simp [itemsD] at h
def dListM : RCd := fun xs W Q => match xs with
  | [x] => match itemsD W x with
    | some ds => ∀ p, W p = none → Q (.ref p) (updW W p (.lst ds))
    | none => False
  | _ => False
@[simp ↓] theorem dListM_u : ∀ xs W Q, dListM xs W Q = (match xs with
  | [x] => match itemsD W x with
    | some ds => ∀ p, W p = none → Q (.ref p) (updW W p (.lst ds))
    | none => False
  | _ => False) := fun _ _ _ => propext Iff.rfl
def dList : RCd := fun xs W Q => match xs with
  | [x] => match itemsD W x with
    | some ds => Q (.lst ds) W
    | none => False
  | _ => False
@[simp ↓] theorem dList_u : ∀ xs W Q, dList xs W Q = (match xs with
  | [x] => match itemsD W x with
    | some ds => Q (.lst ds) W
    | none => False
  | _ => False) := fun _ _ _ => propext Iff.rfl
theorem cd_listM : CallD X (.type "list") dListM := by
  refine ⟨_, call_list_of, fun {Z I W H xs vs Qd Q} S r h sv => ?_⟩
  unfold dListM at h
  split at h
  · rename_i x
    obtain ⟨v, rfl, rx⟩ := rep1 r
    cases e : itemsD W x with
    | none => rw [e] at h; exact h.elim
    | some ds =>
      rw [e] at h
      obtain ⟨p, ys, rfl, hs, hl⟩ := items_of S rx e
      exact ⟨p, ys, rfl, hs, fun l hl2 => sim_lstM S hl sv hl2 h⟩
  · exact h.elim
theorem cd_list : CallD X (.type "list") dList := by
  refine ⟨_, call_list_of, fun {Z I W H xs vs Qd Q} S r h sv => ?_⟩
  unfold dList at h
  split at h
  · rename_i x
    obtain ⟨v, rfl, rx⟩ := rep1 r
    cases e : itemsD W x with
    | none => rw [e] at h; exact h.elim
    | some ds =>
      rw [e] at h
      obtain ⟨p, ys, rfl, hs, hl⟩ := items_of S rx e
      exact ⟨p, ys, rfl, hs, fun l hl2 => sim_lst S hl sv hl2 h⟩
  · exact h.elim
def dTuple : RCd := fun xs W Q => match xs with
  | [x] => match itemsD W x with
    | some ds => Q (.tup ds) W
    | none => False
  | _ => False
@[simp ↓] theorem dTuple_u : ∀ xs W Q, dTuple xs W Q = (match xs with
  | [x] => match itemsD W x with
    | some ds => Q (.tup ds) W
    | none => False
  | _ => False) := fun _ _ _ => propext Iff.rfl
theorem cd_tuple : CallD X (.type "tuple") dTuple := by
  refine ⟨_, call_tuple_of, fun {Z I W H xs vs Qd Q} S r h sv => ?_⟩
  unfold dTuple at h
  split at h
  · rename_i x
    obtain ⟨v, rfl, rx⟩ := rep1 r
    cases e : itemsD W x with
    | none => rw [e] at h; exact h.elim
    | some ds =>
      rw [e] at h
      have key : (∃ p ys, v = .ref p ∧ SqL X.K H p ys ∧ RepL X.K I ds ys) ∨ (∃ xs p ys, x = .tup xs ∧ v = .ref p ∧ SqT X.K I p ys ∧ RepL X.K I ds ys) := by
        cases x with
        | lst xs =>
          cases rx with
          | lst h1 h2 => cases e; exact .inl ⟨_, _, rfl, .inl (.inl (S.imm _ _ h1)), h2⟩
        | tup xs =>
          cases rx with
          | tup h1 h2 => cases e; exact .inr ⟨_, _, _, rfl, rfl, h1, h2⟩
        | ref a =>
          cases rx
          cases hw : W a with
          | none => simp [itemsD, hw] at e
          | some c =>
            cases c with
            | lst xs =>
              simp [itemsD, hw] at e
              subst e
              obtain ⟨_, vs, hv, rv⟩ := S.cell a _ hw
              exact .inl ⟨_, _, rfl, .inl (.inl hv), rv⟩
            | ins C fs => simp [itemsD, hw] at e
            | dk kvs => simp [itemsD, hw] at e
            | xd kvs => simp [itemsD, hw] at e
            | dn hs kvs => simp [itemsD, hw] at e
            | tab q => simp [itemsD, hw] at e
            | fn o c q => simp [itemsD, hw] at e
        | _ => simp [itemsD] at e
      rcases key with ⟨p, ys, rfl, hs, hl⟩ | ⟨xs, p, ys, rfl, rfl, hs, hl⟩
      · exact ⟨p, ys, rfl, .inl ⟨hs, fun l hl2 => sim_tup S hl sv hl2 h⟩⟩
      · exact ⟨p, ys, rfl, .inr ⟨sqT_same S.imm hs, sv _ W _ I H (Same.refl I) S (.tup hs hl) h⟩⟩
  · exact h.elim
def dInt : RCd := fun xs W Q => match xs with
  | [.int i] => Q (.int i) W
  | [.bl k] => Q (.int (if k then 1 else 0)) W
  | _ => False
@[simp ↓] theorem dInt_u : ∀ xs W Q, dInt xs W Q = (match xs with
  | [.int i] => Q (.int i) W
  | [.bl k] => Q (.int (if k then 1 else 0)) W
  | _ => False) := fun _ _ _ => propext Iff.rfl
theorem cd_int : CallD X (.type "int") dInt := by
  refine ⟨_, call_int1, fun {Z I W H xs vs Qd Q} S r h sv => ?_⟩
  unfold dInt at h
  split at h
  · obtain ⟨v, rfl, rx⟩ := rep1 r
    cases rx
    exact .inl ⟨_, rfl, sv _ W _ I H (Same.refl I) S (.int _) h⟩
  · obtain ⟨v, rfl, rx⟩ := rep1 r
    cases rx
    exact .inr ⟨_, rfl, sv _ W _ I H (Same.refl I) S (.int _) h⟩
  · exact h.elim
def dStr : RCd := fun xs W Q => match xs with
  | [.int i] => i.natAbs.log2 < 1920 ∧ Q (.str (toString i)) W
  | _ => False
@[simp ↓] theorem dStr_u : ∀ xs W Q, dStr xs W Q = (match xs with
  | [.int i] => i.natAbs.log2 < 1920 ∧ Q (.str (toString i)) W
  | _ => False) := fun _ _ _ => propext Iff.rfl
theorem cd_str : CallD X (.type "str") dStr := by
  refine ⟨_, call_str_int, fun {Z I W H xs vs Qd Q} S r h sv => ?_⟩
  unfold dStr at h
  split at h
  · obtain ⟨v, rfl, rx⟩ := rep1 r
    cases rx
    exact ⟨_, rfl, h.1, sv _ W _ I H (Same.refl I) S (.str _) h.2⟩
  · exact h.elim
def dMax2 : RCd := fun xs W Q => match xs with
  | [.int i, .int j] => Q (.int (max i j)) W
  | _ => False
@[simp ↓] theorem dMax2_u : ∀ xs W Q, dMax2 xs W Q = (match xs with
  | [.int i, .int j] => Q (.int (max i j)) W
  | _ => False) := fun _ _ _ => propext Iff.rfl
theorem cd_max2 (hc : X.calm = true) : CallD X (.builtin "max") dMax2 := by
  refine ⟨_, call_max2 hc, fun {Z I W H xs vs Qd Q} S r h sv => ?_⟩
  unfold dMax2 at h
  split at h
  · rename_i i j
    obtain ⟨v, u, rfl, rx, ry⟩ := rep2 r
    cases rx; cases ry
    refine ⟨_, _, rfl, sv _ W _ I H (Same.refl I) S (.int _) ?_⟩
    have e : (if j > i then j else i) = max i j := by split <;> omega
    rw [e]
    exact h
  · exact h.elim
def dMin2 : RCd := fun xs W Q => match xs with
  | [.int i, .int j] => Q (.int (min i j)) W
  | _ => False
@[simp ↓] theorem dMin2_u : ∀ xs W Q, dMin2 xs W Q = (match xs with
  | [.int i, .int j] => Q (.int (min i j)) W
  | _ => False) := fun _ _ _ => propext Iff.rfl
theorem cd_min2 (hc : X.calm = true) : CallD X (.builtin "min") dMin2 := by
  refine ⟨_, call_min2 hc, fun {Z I W H xs vs Qd Q} S r h sv => ?_⟩
  unfold dMin2 at h
  split at h
  · rename_i i j
    obtain ⟨v, u, rfl, rx, ry⟩ := rep2 r
    cases rx; cases ry
    refine ⟨_, _, rfl, sv _ W _ I H (Same.refl I) S (.int _) ?_⟩
    have e : (if j < i then j else i) = min i j := by split <;> omega
    rw [e]
    exact h
  · exact h.elim
def dAbs : RCd := fun xs W Q => match xs with
  | [.int i] => Q (.int (if i < 0 then -i else i)) W
  | _ => False
@[simp ↓] theorem dAbs_u : ∀ xs W Q, dAbs xs W Q = (match xs with
  | [.int i] => Q (.int (if i < 0 then -i else i)) W
  | _ => False) := fun _ _ _ => propext Iff.rfl
theorem cd_abs : CallD X (.builtin "abs") dAbs := by
  refine ⟨_, call_abs, fun {Z I W H xs vs Qd Q} S r h sv => ?_⟩
  unfold dAbs at h
  split at h
  · obtain ⟨v, rfl, rx⟩ := rep1 r
    cases rx
    exact ⟨_, rfl, sv _ W _ I H (Same.refl I) S (.int _) h⟩
  · exact h.elim
/-- sorted(xs), a list or tuple of ints -/
def dSortedI : RCd := fun xs W Q => match xs with
  | [x] => ∃ ns : List Int, itemsD W x = some (ns.map D.int) ∧ ns.length < 64 ∧ Q (.lst ((sortI ns).map D.int)) W
  | _ => False
@[simp ↓] theorem dSortedI_u : ∀ xs W Q, dSortedI xs W Q = (match xs with
  | [x] => ∃ ns : List Int, itemsD W x = some (ns.map D.int) ∧ ns.length < 64 ∧ Q (.lst ((sortI ns).map D.int)) W
  | _ => False) := fun _ _ _ => propext Iff.rfl
theorem cd_sortedI : CallD X (.builtin "sorted") dSortedI := by
  refine ⟨_, cr_sorted.or cr_sortedTI, fun {Z I W H xs vs Qd Q} S r h sv => ?_⟩
  unfold dSortedI at h
  split at h
  · obtain ⟨ns, e, h64, q⟩ := h
    obtain ⟨v, rfl, rx⟩ := rep1 r
    obtain ⟨p, ys, rfl, hs, hl⟩ := items_of S rx e
    have e2 := hl.ints_of
    subst e2
    rcases hs with hs | hs
    · refine .inl ⟨p, ns, rfl, hs, h64, fun ns' l pm so hl2 => sim_lst S (RepL.ints ns') sv hl2 ?_⟩
      rw [sortI_of pm so]
      exact q
    · refine .inr ⟨p, ns, rfl, hs, h64, fun ns' l pm so hl2 => sim_lst S (RepL.ints ns') sv hl2 ?_⟩
      rw [sortI_of pm so]
      exact q
  · exact h.elim
def dSumI : RCd := fun xs W Q => match xs with
  | [.lst ds] => ∃ ns : List Int, ds = ns.map D.int ∧ Q (.int ns.sum) W
  | _ => False
@[simp ↓] theorem dSumI_u : ∀ xs W Q, dSumI xs W Q = (match xs with
  | [.lst ds] => ∃ ns : List Int, ds = ns.map D.int ∧ Q (.int ns.sum) W
  | _ => False) := fun _ _ _ => propext Iff.rfl
theorem cd_sumI (hc : X.calm = true) : CallD X (.builtin "sum") dSumI := by
  refine ⟨_, cr_sum hc, fun {Z I W H xs vs Qd Q} S r h sv => ?_⟩
  unfold dSumI at h
  split at h
  · obtain ⟨ns, rfl, q⟩ := h
    obtain ⟨v, rfl, rx⟩ := rep1 r
    cases rx with
    | lst h1 h2 =>
      have e2 := h2.ints_of
      subst e2
      exact ⟨_, ns, rfl, .inl (.inl (S.imm _ _ h1)), sv _ W _ I H (Same.refl I) S (.int _) q⟩
  · exact h.elim
/-! min of a list or tuple of ints -/
def rMinTI (K : PySem.W.Frag) : List V → Hp → VK → Prop := fun vs H Q => ∃ (a : Addr) (ns : List Int), vs = [V.ref a] ∧ SqT K H a (ns.map V.int) ∧ 0 < ns.length ∧ ∀ m, m ∈ ns → (∀ y, y ∈ ns → m ≤ y) → Q (.int m) H
theorem readsAll_ints {h : Heap} : ∀ {ns : List Int} {us : List Value}, IntsAre us ns → ∃ as, ReadsAll h us (ns.map PyData.int) as
  | _, _, .nil => ⟨_, .nil⟩
  | _, _, .cons n t r => by
    obtain ⟨as, h1⟩ := readsAll_ints r
    exact ⟨_, .cons (.int n t) h1⟩
theorem minD_ints : ∀ (ns : List Int) (n : Int), ∃ m, PySem.W.minD (.int n) (ns.map PyData.int) = .int m ∧ m ∈ n :: ns ∧ ∀ y, y ∈ n :: ns → m ≤ y
  | [], n => ⟨n, rfl, List.mem_cons_self, fun y hy => by
      rcases List.mem_cons.mp hy with e | e
      · exact Int.le_of_eq e.symm
      · cases e⟩
  | k :: ns, n => by
    have e : PySem.W.minD (.int n) ((k :: ns).map PyData.int) = PySem.W.minD (.int (if k < n then k else n)) (ns.map PyData.int) := by
      unfold PySem.W.minD
      rw [List.map_cons, List.foldl_cons, PySem.W.dataLt_int]
      by_cases h : k < n
      · rw [decide_eq_true h, if_pos rfl, if_pos h]
      · rw [decide_eq_false h, if_neg Bool.false_ne_true, if_neg h]
    obtain ⟨m, h1, h2, h3⟩ := minD_ints ns (if k < n then k else n)
    refine ⟨m, e.trans h1, ?_, fun y hy => ?_⟩
    · rcases List.mem_cons.mp h2 with e2 | e2
      · rw [e2]; split <;> simp
      · exact List.mem_cons_of_mem _ (List.mem_cons_of_mem _ e2)
    · have h4 := h3 _ List.mem_cons_self
      rcases List.mem_cons.mp hy with e2 | hy
      · subst e2; split at h4 <;> omega
      · rcases List.mem_cons.mp hy with e2 | hy
        · subst e2; split at h4 <;> omega
        · exact h3 y (List.mem_cons_of_mem _ hy)
theorem depth_ints' : ∀ xs : List Int, PyData.depthAll (xs.map PyData.int) = 0
  | [] => by simp [PyData.depthAll]
  | x :: xs => by
    show PyData.depthAll (.int x :: xs.map .int) = 0
    rw [PyData.depthAll, depth_ints' xs]
    simp [PyData.depth]
theorem cr_minTI (hc : X.calm = true) (hu : X.A.units + 64 < cLine) : CallR X (.builtin "min") (rMinTI X.K) := by
  intro pins s σ H vs us Q I r h
  obtain ⟨a, ns, rfl, hs, hn, q⟩ := h
  obtain ⟨its, rv, hl, _⟩ := I.tuple hs
  rw [Vals.ref1 r]
  have hi := rv.ints
  cases ns with
  | nil => exact absurd hn (by simp)
  | cons n ns =>
    obtain ⟨as, hr⟩ := readsAll_ints (h := s.heap) hi
    refine PySem.W.min_tuple_data (x := .int n) (xs := ns.map PyData.int) (I.ok.hd hc) (show s.heap.IsTuple a its.toArray from hl) (by simpa using hr) ?_ ?_ fun i v h' tk bs hv hrd hk => ?_
    · have all : ∀ d ∈ (PyData.int n :: ns.map PyData.int), ∃ i, d = .int i := fun d hd => by
        rcases List.mem_cons.mp hd with e | e
        · exact ⟨n, e⟩
        · obtain ⟨i, _, e⟩ := List.mem_map.mp e; exact ⟨i, e.symm⟩
      refine ⟨fun d hd d' hd' => ?_, fun d hd => ?_⟩
      · obtain ⟨i, rfl⟩ := all d hd
        obtain ⟨i', rfl⟩ := all d' hd'
        simp [PySem.W.alike]
      · obtain ⟨i, rfl⟩ := all d hd
        exact fun z => by cases z
    · have e := depth_ints' (n :: ns)
      rw [List.map_cons] at e
      rw [e]; omega
    · obtain ⟨m, e1, e2, e3⟩ := minD_ints ns n
      rw [e1] at hrd
      cases hrd
      exact ⟨.int m, H, I.kept hk, ⟨_, rfl⟩, q m e2 e3⟩
def dMinI : RCd := fun xs W Q => match xs with
  | [x] => ∃ ns : List Int, itemsD W x = some (ns.map D.int) ∧ 0 < ns.length ∧ ∀ m, m ∈ ns → (∀ y, y ∈ ns → m ≤ y) → Q (.int m) W
  | _ => False
@[simp ↓] theorem dMinI_u : ∀ xs W Q, dMinI xs W Q = (match xs with
  | [x] => ∃ ns : List Int, itemsD W x = some (ns.map D.int) ∧ 0 < ns.length ∧ ∀ m, m ∈ ns → (∀ y, y ∈ ns → m ≤ y) → Q (.int m) W
  | _ => False) := fun _ _ _ => propext Iff.rfl
theorem cd_minI (hc : X.calm = true) (hu : X.A.units + 64 < cLine) : CallD X (.builtin "min") dMinI := by
  refine ⟨_, (cr_min hc).or (cr_minTI hc hu), fun {Z I W H xs vs Qd Q} S r h sv => ?_⟩
  unfold dMinI at h
  split at h
  · obtain ⟨ns, e, h0, q⟩ := h
    obtain ⟨v, rfl, rx⟩ := rep1 r
    obtain ⟨p, ys, rfl, hs, hl⟩ := items_of S rx e
    have e2 := hl.ints_of
    subst e2
    rcases hs with hs | hs
    · exact .inl ⟨p, ns, rfl, hs, h0, fun m h1 h2 => sv _ W _ I H (Same.refl I) S (.int _) (q m h1 h2)⟩
    · exact .inr ⟨p, ns, rfl, hs, h0, fun m h1 h2 => sv _ W _ I H (Same.refl I) S (.int _) (q m h1 h2)⟩
  · exact h.elim

/-! ### sorted(set(t)), t a tuple of ints -/
def rSetT (K : PySem.W.Frag) (w : World) : List V → Hp → VK → Prop := fun vs H Q => ∃ (a : Addr) (ns : List Int), vs = [V.ref a] ∧ SqT K H a (ns.map V.int) ∧ ns.length ≤ 60 ∧
  ∀ (c : Nat) (p : Addr), c ≤ ns.length → H p = none → Q (.ref p) (upd H p (SetO w p (fun j => decide (j ∈ ns)) c))
theorem cr_setT (hc : X.calm = true) : CallR X (.type "set") (rSetT X.K X.w) := by
  intro pins s σ H vs us Q I r h
  obtain ⟨a, ns, rfl, hs, h60, q⟩ := h
  obtain ⟨its, rv, hl, _⟩ := I.tuple hs
  rw [Vals.ref1 r]
  have hi := rv.ints
  refine call_set_tupI ns (I.ok.hd hc) (show s.heap.IsTuple a its.toArray from hl) (by simpa using hi) (by unfold scanBound; omega) fun h' tk c R1 hcn k => ?_
  exact ⟨.ref _, upd H s.heap.objs.size (SetO X.w s.heap.objs.size (fun j => decide (j ∈ ns)) c), I.laid (t' := tk) k (Nat.le_refl _) (setO_new R1), rfl, q c _ hcn (I.hok.fresh (Nat.le_refl _))⟩
def dSortedSet : RCd := fun xs W Q => match xs with
  | [.tup ds] => ∃ ns : List Int, ds = ns.map D.int ∧ ns.length ≤ 60 ∧ ∀ ms : List Int, ms.Pairwise (· < ·) → (∀ k, k ∈ ms ↔ k ∈ ns) → Q (.lst (ms.map D.int)) W
  | _ => False
@[simp ↓] theorem dSortedSet_u : ∀ xs W Q, dSortedSet xs W Q = (match xs with
  | [.tup ds] => ∃ ns : List Int, ds = ns.map D.int ∧ ns.length ≤ 60 ∧ ∀ ms : List Int, ms.Pairwise (· < ·) → (∀ k, k ∈ ms ↔ k ∈ ns) → Q (.lst (ms.map D.int)) W
  | _ => False) := fun _ _ _ => propext Iff.rfl
variable {e : Expr} {td : TD} {pos : Pos}
theorem de_sortedSet {p p2 pos2 : Pos} (hc : X.calm = true) (hm : X.mg "sorted" = none) (hm2 : X.mg "set" = none) (ha : DE X E e td) (hg : Gl X "sorted" := by rfl) (hg2 : Gl X "set" := by rfl)
    (he : starEach [.Call (.Name "set" p2) [e] [] pos2] X.env = (false, eval (.Call (.Name "set" p2) [e] [] pos2) X.env) :: starEach [] X.env := by rfl) (he2 : starEach [e] X.env = (false, eval e X.env) :: starEach [] X.env := by rfl) :
    DE X E (.Call (.Name "sorted" p) [.Call (.Name "set" p2) [e] [] pos2] [] pos) (tdCB dSortedSet (tdCons td tdNil)) := by
  obtain ⟨t1, p1, d1⟩ := ha.ex
  refine ⟨_, pe_callB (cr_sortedSet hc) hg hm (by decide +kernel) (pa_cons (pe_callTy (cr_setT hc) hg2 hm2 (by decide +kernel) (pa_cons p1 pa_nil he2) (by decide) (by decide) he2 (by rfl)) pa_nil he) (by decide) (by decide) he (by rfl), fun {Z I W H σ ρ Qd Ed Q} S R h sv sx => ?_⟩
  refine d1 S R h (fun x W1 v I1 H1 e1 S1 r1 h1 => ?_) sx
  cases x with
  | tup ds =>
    obtain ⟨ns, rfl, h60, qq⟩ := h1
    cases r1 with
    | tup q1 q2 =>
      have e2 := q2.ints_of
      subst e2
      refine ⟨_, ns, rfl, sqT_same S1.imm q1, h60, fun c q hc' hq => ?_⟩
      refine ⟨q, _, c, rfl, upd_same, by omega, fun ms l h1 h2 h3 hl => ?_⟩
      have S2 := S1.lay0 hq (SetO X.w q (fun j => decide (j ∈ ns)) c)
      exact sim_lst S2 (RepL.ints ms) (sv.mono e1) hl (qq ms h1 fun k => (h2 k).trans (by simp))
  | _ => exact h1.elim
end
end DL

/-! DL5: what is walked, comprehensions, calls of defs, attributes. -/
namespace DL
open PySem PySem.Spec PyProof.Rows L2

/-- the one reading of a data reading -/
def tOf (K : PySem.W.Frag) (E : XK) (td : TD) : TE := fun σ H Q => ∃ (Z I : Hp) (W : Wd) (ρ : DEnv) (Qd : QD) (Ed : XD), SR K Z I W H ∧ EnvR K I σ ρ ∧ td ρ W Qd Ed ∧ SimV K Z I Qd Q ∧ SimX K Z I Ed E
def ttOf (K : PySem.W.Frag) (E : XK) (td : TTd) : TT := fun σ H Q => ∃ (Z I : Hp) (W : Wd) (ρ : DEnv) (Qd : Bool → Wd → Prop) (Ed : XD), SR K Z I W H ∧ EnvR K I σ ρ ∧ td ρ W Qd Ed ∧ SimB K Z I Qd Q ∧ SimX K Z I Ed E
section
variable {X : Cx} {E : XK} {j : Nat} {e : Expr} {td : TD} {tt : TTd}
theorem DE.pe (h : DE X E e td) : PE X e (tOf X.K E td) := by
  obtain ⟨t, p, d⟩ := h.ex
  refine ⟨fun pins s σ H Q I q => p.run pins s σ H Q I ?_⟩
  obtain ⟨Z, I', W, ρ, Qd, Ed, S, R, q, sv, sx⟩ := q
  exact d S R q sv sx
theorem DT.pt (h : DT X E e tt) : PT X e (ttOf X.K E tt) := by
  obtain ⟨t, p, d⟩ := h.ex
  refine ⟨fun pins s σ H Q I q => p.run pins s σ H Q I ?_⟩
  obtain ⟨Z, I', W, ρ, Qd, Ed, S, R, q, sv, sx⟩ := q
  exact d S R q sv sx
structure DTs (X : Cx) (E : XK) (ifs : List Expr) (td : TTd) : Prop where
  pts : PTs X ifs (ttOf X.K E td)
def tdYes : TTd := fun _ W Q _ => Q true W
@[simp ↓] theorem tdYes_u : ∀ u_0 W Q u_1, tdYes u_0 W Q u_1 = (Q true W) := fun _ _ _ _ => propext Iff.rfl
theorem dts_nil : DTs X E [] tdYes := ⟨⟨fun pins s σ H Q I q => pts_nil.run pins s σ H Q I (by
  obtain ⟨Z, I', W, ρ, Qd, Ed, S, R, q, sv, sx⟩ := q
  exact sv true W I' H (Same.refl _) S q)⟩⟩
theorem dts_one (h : DT X E e tt) : DTs X E [e] tt := ⟨pts_one h.pt⟩
end

/-! ### targets -/
inductive Tg where
  | name (i : Nat) | tup (is : List Nat)
def gsOf : List Nat → TGs
  | [] => gNil
  | i :: is => gCons (gName i) (gsOf is)
def gOf (K : PySem.W.Frag) : Tg → TG
  | .name i => gName i
  | .tup is => gTup K is.length (gsOf is)
def Tg.slots : Tg → List Nat
  | .name i => [i]
  | .tup is => is
structure PGt (X : Cx) (e : Expr) (t : Tg) : Prop where
  pg : PG X e (gOf X.K t)
section
variable {X : Cx} {pos : Pos}
theorem pgt_name (i : Nat) {x : Str} (hN : X.N.Nodup) (hi : X.N[i]? = some x := by rfl) (hx : Loc X.env.scope x := by first | exact Or.inl rfl | exact Or.inr rfl) (hf : X.fn x = true ∨ X.env.scope.names.lookup x = some .local := by first | exact .inl rfl | exact .inr rfl | assumption) : PGt X (.Name x pos) (.name i) := ⟨pg_name hN hi hx hf⟩
structure PGts (X : Cx) (es : List Expr) (is : List Nat) : Prop where
  pgs : PGs X es (gsOf is)
theorem pgts_nil : PGts X [] [] := ⟨pgs_nil⟩
theorem pgts_cons {e : Expr} {es : List Expr} {i : Nat} {is : List Nat} (h1 : PGt X e (.name i)) (h2 : PGts X es is) (hs : (assignEach (e :: es) X.env).map (·.2) = assign e X.env :: (assignEach es X.env).map (·.2) := by rfl) : PGts X (e :: es) (i :: is) := ⟨pgs_cons h1.pg h2.pgs hs⟩
theorem pgt_tup {es : List Expr} {k : Nat} {is : List Nat} (hc : X.calm = true) (h : PGts X es is) (hn : (assignEach es X.env).length = is.length := by rfl) (hst : (assignEach es X.env).findIdx? (·.1) = none := by rfl) : PGt X (.Tuple es k pos) (.tup is) := ⟨pg_tup hc h.pgs hn hst⟩
end
@[simp] def setAll (ρ : DEnv) : List Nat → List D → DEnv
  | i :: is, d :: ds => setAll (setS ρ i d) is ds
  | _, _ => ρ
def asgT (t : Tg) (d : D) (ρ : DEnv) (W : Wd) (Q : DEnv → Wd → Prop) : Prop := match t with
  | .name i => Q (setS ρ i d) W
  | .tup is => match d with
    | .tup ds => ds.length = is.length ∧ Q (setAll ρ is ds) W
    | _ => False
@[simp ↓] theorem asgT_name (i : Nat) (d : D) (ρ : DEnv) (W : Wd) (Q : DEnv → Wd → Prop) : asgT (.name i) d ρ W Q = Q (setS ρ i d) W := propext Iff.rfl
@[simp ↓] theorem asgT_tup (is : List Nat) (ds : List D) (ρ : DEnv) (W : Wd) (Q : DEnv → Wd → Prop) : asgT (.tup is) (.tup ds) ρ W Q = (ds.length = is.length ∧ Q (setAll ρ is ds) W) := propext Iff.rfl
theorem gs_sim {K : PySem.W.Frag} {I : Hp} {H : Hp} {Q : L2.St → Hp → Prop} : ∀ {is : List Nat} {ds : List D} {vs : List V} {σ : L2.St} {ρ : DEnv}, RepL K I ds vs → ds.length = is.length → EnvR K I σ ρ →
    (∀ σ', EnvR K I σ' (setAll ρ is ds) → (∀ us : List Nat, (∀ i ∈ is, i ∈ us) → ∀ σ0, wipe σ us = wipe σ0 us → wipe σ' us = wipe σ0 us) → Q σ' H) → gsOf is vs σ H Q
  | [], _, _, σ, ρ, .nil, _, R, h => ⟨rfl, h σ R fun us _ σ0 e => e⟩
  | [], _, _, _, _, .cons _ _, hl, _, _ => by simp at hl
  | i :: is, _, _, _, _, .nil, hl, _, _ => by simp at hl
  | i :: is, _, _, σ, ρ, .cons (d := d) (v := v) r t, hl, R, h => by
    refine ⟨_, _, rfl, ?_⟩
    show gsOf is _ (σ.set i (some v)) H Q
    refine gs_sim t (by simpa using hl) (R.set r i) fun σ' R' hw => h σ' R' fun us hu σ0 e => hw us (fun k hk => hu k (List.mem_cons_of_mem _ hk)) σ0 ?_
    rw [← e]
    have hi := hu i List.mem_cons_self
    clear hw h hu e
    induction us with
    | nil => cases hi
    | cons u us ih =>
      show (wipe (σ.set i (some v)) us).set u none = (wipe σ us).set u none
      rcases List.mem_cons.mp hi with e | hi
      · subst e
        have key : ∀ (us : List Nat) (σ : L2.St), ∃ τ : L2.St, wipe (σ.set i (some v)) us = τ ∧ ∀ k, k ≠ i → τ[k]? = (wipe σ us)[k]? := by
          intro us
          induction us with
          | nil => exact fun σ => ⟨_, rfl, fun k hk => by show (σ.set i (some v))[k]? = σ[k]?; rw [List.getElem?_set_ne (Ne.symm hk)]⟩
          | cons u us ih =>
            intro σ
            obtain ⟨τ, h1, h2⟩ := ih σ
            refine ⟨_, rfl, fun k hk => ?_⟩
            show ((wipe (σ.set i (some v)) us).set u none)[k]? = ((wipe σ us).set u none)[k]?
            rw [h1]
            by_cases hku : u = k
            · subst hku
              have hl : τ.length = (wipe σ us).length := by rw [← h1, wipe_length, wipe_length, List.length_set]
              by_cases hlt : u < τ.length
              · rw [List.getElem?_set_self hlt, List.getElem?_set_self (by omega)]
              · rw [List.getElem?_eq_none (by simp; omega), List.getElem?_eq_none (by simp; omega)]
            · rw [List.getElem?_set_ne hku, List.getElem?_set_ne hku]
              exact h2 k hk
        obtain ⟨τ, h1, h2⟩ := key us σ
        rw [h1]
        apply List.ext_getElem?
        intro k
        have hl : τ.length = (wipe σ us).length := by rw [← h1, wipe_length, wipe_length, List.length_set]
        by_cases hk : i = k
        · subst hk
          by_cases hlt : i < τ.length
          · rw [List.getElem?_set_self hlt, List.getElem?_set_self (by omega)]
          · rw [List.getElem?_eq_none (by simp; omega), List.getElem?_eq_none (by simp; omega)]
        · rw [List.getElem?_set_ne hk, List.getElem?_set_ne hk]
          exact h2 k (Ne.symm hk)
      · rw [ih hi]
theorem g_sim {K : PySem.W.Frag} {Z I : Hp} {W : Wd} {H : Hp} {Q : L2.St → Hp → Prop} {t : Tg} {d : D} {v : V} {σ : L2.St} {ρ : DEnv} {Qd : DEnv → Wd → Prop} (S : SR K Z I W H) (r : Rep K I d v) (R : EnvR K I σ ρ) (h : asgT t d ρ W Qd)
    (k : ∀ σ' ρ', EnvR K I σ' ρ' → Qd ρ' W → (∀ us : List Nat, (∀ i ∈ t.slots, i ∈ us) → ∀ σ0, wipe σ us = wipe σ0 us → wipe σ' us = wipe σ0 us) → Q σ' H) : gOf K t v σ H Q := by
  cases t with
  | name i =>
    have q := gs_sim (H := H) (Q := Q) (is := [i]) (ds := [d]) (.cons r .nil) rfl R fun σ' R' hw => k σ' _ R' h fun us hu => hw us hu
    obtain ⟨v', r', e, q⟩ := q
    cases e
    obtain ⟨_, q⟩ := q
    exact q
  | tup is =>
    cases d with
    | tup ds =>
      obtain ⟨hl, h⟩ := h
      cases r with
      | @tup a vs _ h1 h2 => exact ⟨a, vs, rfl, sqT_same S.imm h1, by rw [← h2.length]; exact hl, gs_sim h2 hl R fun σ' R' hw => k σ' _ R' h fun us hu => hw us hu⟩
    | _ => exact h.elim

/-! ### what is walked -/
structure Iter (K : PySem.W.Frag) (I : Hp) (xs : List D) (G : Wd → Prop) (J : It) : Prop where
  go : ∀ (i : Nat) Z I' W H, i < xs.length → Same I I' → SR K Z I' W H → G W → J.go i H
  yld : ∀ (i : Nat) d Z I' W H x H', xs[i]? = some d → Same I I' → SR K Z I' W H → G W → J.yld i H x H' → ∃ I'', Same I' I'' ∧ SR K Z I'' W H' ∧ Rep K I'' d x
  stop : ∀ Z I' W H, Same I I' → SR K Z I' W H → G W → J.stop xs.length H
abbrev TId := DEnv → Wd → (List D → (Wd → Prop) → Wd → Prop) → XD → Prop
structure DI (X : Cx) (E : XK) (tg iter : Expr) (ti : TId) : Prop where
  ex : ∃ wi : TI, PI X tg iter wi ∧ ∀ {Z I : Hp} {W : Wd} {H : Hp} {σ : L2.St} {ρ : DEnv} {Rd : List D → (Wd → Prop) → Wd → Prop} {Ed : XD} {R : It → Hp → Prop}, SR X.K Z I W H → EnvR X.K I σ ρ → ti ρ W Rd Ed →
    (∀ xs G W' I' H' J, Same I I' → SR X.K Z I' W' H' → Iter X.K I' xs G J → Rd xs G W' → R J H') → SimX X.K Z I Ed E → wi σ H R
def tiSeq (te : TD) : TId := fun ρ W R E => te ρ W (fun x W1 => match x with
  | .lst xs => R xs (fun _ => True) W1
  | .tup xs => R xs (fun _ => True) W1
  | .ref a => match W1 a with
    | some (.lst xs) => R xs (fun W => W a = some (.lst xs)) W1
    | _ => False
  | _ => False) E
@[simp ↓] theorem tiSeq_u (te : TD) : ∀ ρ W R E, tiSeq te ρ W R E = (te ρ W (fun x W1 => match x with
  | .lst xs => R xs (fun _ => True) W1
  | .tup xs => R xs (fun _ => True) W1
  | .ref a => match W1 a with
    | some (.lst xs) => R xs (fun W => W a = some (.lst xs)) W1
    | _ => False
  | _ => False) E) := fun _ _ _ _ => propext Iff.rfl
def iSeq (K : PySem.W.Frag) (tl : TE) : TI := fun σ H R => tl σ H fun x H1 => ∃ a, x = .ref a ∧ (((∃ xs, SqL K H1 a xs) ∧ R (Itl K a) H1) ∨ ((∃ xs, SqT K H1 a xs) ∧ R (Itt K a) H1))
section
variable {X : Cx} {E : XK} {j : Nat} {tg e : Expr} {te : TD}
theorem pi_seq {l : Expr} {tl : TE} (hl : PE X l tl) : PI X tg l (iSeq X.K tl) := by
  refine ⟨fun pins s σ H R I h => ?_⟩
  refine thn (hl.run pins s σ H _ I h) fun v s1 ⟨x, H1, I1, r1, q1⟩ => ?_
  obtain ⟨a, e, q⟩ := q1
  subst e
  cases r1
  rcases q with ⟨⟨xs, hq⟩, q⟩ | ⟨⟨xs, hq⟩, q⟩
  · obtain ⟨its, rv, p, hz⟩ := I1.list hq
    refine wpAny_pyIter_list p.isList ?_
    refine ⟨s1.heap.objs.size, [s1.heap.objs.size], _, _, H1, rfl, I1.kept (t' := s1.toks) fun b o e => Heap.get?_push_of_some _ e, turn_list a _, ⟨_, Heap.get?_push_size _ rfl, rfl, rfl⟩, fun b hb => ?_, q⟩
    have e : b = s1.heap.objs.size := by simpa using hb
    subst e
    exact I1.fpOk (Nat.le_refl _) (I1.hok.fresh (Nat.le_refl _))
  · obtain ⟨its, rv, p, hz⟩ := I1.tuple hq
    refine wpAny_pyIter_tuple (show s1.heap.IsTuple a its.toArray from p) ?_
    refine ⟨s1.heap.objs.size, [s1.heap.objs.size], _, _, H1, rfl, I1.kept (t' := s1.toks) fun b o e => Heap.get?_push_of_some _ e, turn_tuple a _, ⟨_, Heap.get?_push_size _ rfl, rfl, rfl⟩, fun b hb => ?_, q⟩
    have e : b = s1.heap.objs.size := by simpa using hb
    subst e
    exact I1.fpOk (Nat.le_refl _) (I1.hok.fresh (Nat.le_refl _))
theorem iter_lst {K : PySem.W.Frag} {I : Hp} {a : Addr} {vs : List V} {ds : List D} (h : I a = some (.lst vs)) (r : RepL K I ds vs) : Iter K I ds (fun _ => True) (Itl K a) := by
  have hl := r.length
  refine ⟨fun i Z I' W H hi e S _ => ⟨vs, vs[i]'(by omega), .inl (.inl (S.imm _ _ (e _ _ h))), by simp⟩, fun i d Z I' W H x H' hd e S _ y => ?_, fun Z I' W H e S _ => ⟨vs, .inl (.inl (S.imm _ _ (e _ _ h))), by omega⟩⟩
  obtain ⟨rfl, y⟩ := y
  have hx := y vs (.inl (.inl (S.imm _ _ (e _ _ h))))
  obtain ⟨d', h1, h2⟩ := r.get' hx
  rw [hd] at h1; cases h1
  exact ⟨I', Same.refl _, S, h2.mono e⟩
theorem iter_cell {K : PySem.W.Frag} {I : Hp} {a : Addr} {ds : List D} : Iter K I ds (fun W => W a = some (.lst ds)) (Itl K a) := by
  refine ⟨fun i Z I' W H hi e S g => ?_, fun i d Z I' W H x H' hd e S g y => ?_, fun Z I' W H e S g => ?_⟩
  · obtain ⟨_, vs, hv, rv⟩ := S.cell a _ g
    have hl := rv.length
    exact ⟨vs, vs[i]'(by omega), .inl (.inl hv), by simp⟩
  · obtain ⟨_, vs, hv, rv⟩ := S.cell a _ g
    obtain ⟨rfl, y⟩ := y
    obtain ⟨d', h1, h2⟩ := rv.get' (y vs (.inl (.inl hv)))
    rw [hd] at h1; cases h1
    exact ⟨I', Same.refl _, S, h2⟩
  · obtain ⟨_, vs, hv, rv⟩ := S.cell a _ g
    exact ⟨vs, .inl (.inl hv), by rw [rv.length]; exact Nat.le_refl _⟩
theorem iter_tup {K : PySem.W.Frag} {I : Hp} {a : Addr} {vs : List V} {ds : List D} (h : SqT K I a vs) (r : RepL K I ds vs) : Iter K I ds (fun _ => True) (Itt K a) := by
  have hl := r.length
  refine ⟨fun i Z I' W H hi e S _ => ⟨vs, vs[i]'(by omega), sqT_same S.imm (sqT_same e h), by simp⟩, fun i d Z I' W H x H' hd e S _ y => ?_, fun Z I' W H e S _ => ⟨vs, sqT_same S.imm (sqT_same e h), by omega⟩⟩
  obtain ⟨rfl, y⟩ := y
  have hx := y vs (sqT_same S.imm (sqT_same e h))
  obtain ⟨d', h1, h2⟩ := r.get' hx
  rw [hd] at h1; cases h1
  exact ⟨I', Same.refl _, S, h2.mono e⟩
theorem di_seq (he : DE X E e te) : DI X E tg e (tiSeq te) := by
  obtain ⟨t1, p1, d1⟩ := he.ex
  refine ⟨_, pi_seq p1, fun {Z I W H σ ρ Rd Ed R} S R0 h k sx => ?_⟩
  refine d1 S R0 h (fun x W1 v I1 H1 e1 S1 r1 h1 => ?_) sx
  cases x with
  | lst xs =>
    cases r1 with
    | lst q1 q2 => exact ⟨_, rfl, .inl ⟨⟨_, .inl (.inl (S1.imm _ _ q1))⟩, k _ _ W1 I1 H1 _ e1 S1 (iter_lst q1 q2) h1⟩⟩
  | tup xs =>
    cases r1 with
    | tup q1 q2 => exact ⟨_, rfl, .inr ⟨⟨_, sqT_same S1.imm q1⟩, k _ _ W1 I1 H1 _ e1 S1 (iter_tup q1 q2) h1⟩⟩
  | ref a =>
    cases r1
    cases hw : W1 a with
    | none => simp only [hw] at h1
    | some c =>
      cases c with
      | lst xs =>
        simp only [hw] at h1
        obtain ⟨_, vs, hv, rv⟩ := S1.cell a _ hw
        exact ⟨_, rfl, .inl ⟨⟨_, .inl (.inl hv)⟩, k _ _ W1 I1 H1 _ e1 S1 iter_cell h1⟩⟩
      | ins C fs => simp only [hw] at h1
      | dk kvs => simp only [hw] at h1
      | xd kvs => simp only [hw] at h1
      | dn hs kvs => simp only [hw] at h1
      | tab q => simp only [hw] at h1
      | fn o c q => simp only [hw] at h1
  | _ => exact h1.elim
/-- range -/
def rgD (lo : Int) (n : Nat) : List D := (List.range n).map fun i => D.int (lo + (i : Nat))
theorem iter_rg {K : PySem.W.Frag} {I : Hp} {lo : Int} {n : Nat} : Iter K I (rgD lo n) (fun _ => True) (Itr lo n) := by
  have hl : (rgD lo n).length = n := by unfold rgD; rw [List.length_map, List.length_range]
  refine ⟨fun i Z I' W H hi e S _ => by rw [hl] at hi; exact hi, fun i d Z I' W H x H' hd e S _ y => ?_, fun Z I' W H e S _ => by show n ≤ _; rw [hl]; exact Nat.le_refl _⟩
  obtain ⟨rfl, rfl⟩ := y
  have hi := (List.getElem?_eq_some_iff.mp hd).1
  rw [hl] at hi
  unfold rgD at hd
  rw [List.getElem?_map, List.getElem?_range hi] at hd
  cases hd
  exact ⟨I', Same.refl _, S, .int _⟩
def tiRange1 (te : TD) : TId := fun ρ W R E => te ρ W (fun x W1 => match x with
  | .int n => (-(2 ^ 62) ≤ n ∧ n < 2 ^ 62) ∧ R (rgD 0 n.toNat) (fun _ => True) W1
  | _ => False) E
@[simp ↓] theorem tiRange1_u (te : TD) : ∀ ρ W R E, tiRange1 te ρ W R E = (te ρ W (fun x W1 => match x with
  | .int n => (-(2 ^ 62) ≤ n ∧ n < 2 ^ 62) ∧ R (rgD 0 n.toNat) (fun _ => True) W1
  | _ => False) E) := fun _ _ _ _ => propext Iff.rfl
theorem di_range1 {p pos : Pos} (hm : X.mg "range" = none) (he : DE X E e te) (hg : Gl X "range" := by rfl) (hs : starEach [e] X.env = [(false, eval e X.env)] := by rfl) : DI X E tg (.Call (.Name "range" p) [e] [] pos) (tiRange1 te) := by
  obtain ⟨t1, p1, d1⟩ := he.ex
  refine ⟨_, pi_range1 hg hm (pa_cons p1 pa_nil hs) hs, fun {Z I W H σ ρ Rd Ed R} S R0 h k sx => ?_⟩
  refine d1 S R0 h (fun x W1 v I1 H1 e1 S1 r1 h1 => ?_) sx
  cases x with
  | int n =>
    cases r1
    exact ⟨n, rfl, h1.1.1, h1.1.2, k _ _ W1 I1 H1 _ e1 S1 iter_rg h1.2⟩
  | _ => exact h1.elim
/-- list(range(..)) -/
def tdListRg (te : TD) : TD := fun ρ W Q E => te ρ W (fun x W1 => match x with
  | .int n => (0 ≤ n ∧ n ≤ 100000) ∧ Q (.lst (rgD 0 n.toNat)) W1
  | _ => False) E
@[simp ↓] theorem tdListRg_u (te : TD) : ∀ ρ W Q E, tdListRg te ρ W Q E = (te ρ W (fun x W1 => match x with
  | .int n => (0 ≤ n ∧ n ≤ 100000) ∧ Q (.lst (rgD 0 n.toNat)) W1
  | _ => False) E) := fun _ _ _ _ => propext Iff.rfl
def tdListRgM (te : TD) : TD := fun ρ W Q E => te ρ W (fun x W1 => match x with
  | .int n => (0 ≤ n ∧ n ≤ 100000) ∧ ∀ p, W1 p = none → Q (.ref p) (updW W1 p (.lst (rgD 0 n.toNat)))
  | _ => False) E
@[simp ↓] theorem tdListRgM_u (te : TD) : ∀ ρ W Q E, tdListRgM te ρ W Q E = (te ρ W (fun x W1 => match x with
  | .int n => (0 ≤ n ∧ n ≤ 100000) ∧ ∀ p, W1 p = none → Q (.ref p) (updW W1 p (.lst (rgD 0 n.toNat)))
  | _ => False) E) := fun _ _ _ _ => propext Iff.rfl
theorem rep_rg {K : PySem.W.Frag} {I : Hp} (n : Int) : RepL K I (rgD 0 n.toNat) (rgV 0 n) := by
  have e : ∀ l : List Nat, RepL K I (l.map fun i => D.int (0 + (i : Nat))) (l.map fun i => V.int (0 + (i : Nat))) := by
    intro l
    induction l with
    | nil => exact .nil
    | cons a l ih => exact .cons (.int _) ih
  have h := e (List.range n.toNat)
  unfold rgD rgV
  rw [Int.sub_zero]
  exact h
theorem de_listRg {p p2 pos pos2 : Pos} (c : Ct X E j) (hm : X.mg "list" = none) (hm2 : X.mg "range" = none) (he : DE X E e te) (hg : Gl X "list" := by rfl) (hg2 : Gl X "range" := by rfl)
    (na : starEach [.Call (.Name "range" p2) [e] [] pos2] X.env = (false, eval (.Call (.Name "range" p2) [e] [] pos2) X.env) :: starEach [] X.env := by rfl) (na2 : starEach [e] X.env = (false, eval e X.env) :: starEach [] X.env := by rfl) :
    DE X E (.Call (.Name "list" p) [.Call (.Name "range" p2) [e] [] pos2] [] pos) (tdListRg te) := by
  obtain ⟨t1, p1, d1⟩ := he.ex
  refine ⟨_, pe_listRg c.calm hg hm (prg_1 hg2 hm2 p1 na2) na, fun {Z I W H σ ρ Qd Ed Q} S R h sv sx => ?_⟩
  refine d1 S R h (fun x W1 v I1 H1 e1 S1 r1 h1 => ?_) sx
  cases x with
  | int n =>
    cases r1
    exact ⟨n, rfl, RgOk.of_le (by omega) (by omega) (by omega) h1.1.1, fun q hq => sim_lst S1 (rep_rg n) (sv.mono e1) hq h1.2⟩
  | _ => exact h1.elim
theorem de_listRgM {p p2 pos pos2 : Pos} (c : Ct X E j) (hm : X.mg "list" = none) (hm2 : X.mg "range" = none) (he : DE X E e te) (hg : Gl X "list" := by rfl) (hg2 : Gl X "range" := by rfl)
    (na : starEach [.Call (.Name "range" p2) [e] [] pos2] X.env = (false, eval (.Call (.Name "range" p2) [e] [] pos2) X.env) :: starEach [] X.env := by rfl) (na2 : starEach [e] X.env = (false, eval e X.env) :: starEach [] X.env := by rfl) :
    DE X E (.Call (.Name "list" p) [.Call (.Name "range" p2) [e] [] pos2] [] pos) (tdListRgM te) := by
  obtain ⟨t1, p1, d1⟩ := he.ex
  refine ⟨_, pe_listRg c.calm hg hm (prg_1 hg2 hm2 p1 na2) na, fun {Z I W H σ ρ Qd Ed Q} S R h sv sx => ?_⟩
  refine d1 S R h (fun x W1 v I1 H1 e1 S1 r1 h1 => ?_) sx
  cases x with
  | int n =>
    cases r1
    exact ⟨n, rfl, RgOk.of_le (by omega) (by omega) (by omega) h1.1.1, fun q hq => sim_lstM S1 (rep_rg n) (sv.mono e1) hq h1.2⟩
  | _ => exact h1.elim
/-- enumerate(xs) -/
def enD : Nat → List D → List D
  | _, [] => []
  | n, x :: xs => .tup [.int (n : Nat), x] :: enD (n + 1) xs
theorem enD_length : ∀ (n : Nat) (xs : List D), (enD n xs).length = xs.length
  | _, [] => rfl
  | n, x :: xs => congrArg (· + 1) (enD_length (n + 1) xs)
theorem enD_get : ∀ (n i : Nat) (xs : List D) (d : D), (enD n xs)[i]? = some d → ∃ x, xs[i]? = some x ∧ d = .tup [.int ((n + i : Nat) : Int), x]
  | _, _, [], _, h => by simp [enD] at h
  | n, 0, x :: xs, d, h => by
    simp [enD] at h
    exact ⟨x, by simp, by rw [← h]; simp⟩
  | n, i + 1, x :: xs, d, h => by
    obtain ⟨y, h1, h2⟩ := enD_get (n + 1) i xs d (by simpa [enD] using h)
    refine ⟨y, by simpa using h1, ?_⟩
    have e : n + 1 + i = n + (i + 1) := by omega
    rw [← e]; exact h2
def tiEnum (te : TD) : TId := fun ρ W R E => te ρ W (fun x W1 => match x with
  | .lst xs => R (enD 0 xs) (fun _ => True) W1
  | _ => False) E
@[simp ↓] theorem tiEnum_u (te : TD) : ∀ ρ W R E, tiEnum te ρ W R E = (te ρ W (fun x W1 => match x with
  | .lst xs => R (enD 0 xs) (fun _ => True) W1
  | _ => False) E) := fun _ _ _ _ => propext Iff.rfl
theorem di_enum {p pos tpos : Pos} {elts : List Expr} {kk : Nat} (hm : X.mg "enumerate" = none) (he : DE X E e te) (hg : Gl X "enumerate" := by rfl) (hs : starEach [e] X.env = [(false, eval e X.env)] := by rfl) : DI X E (.Tuple elts kk tpos) (.Call (.Name "enumerate" p) [e] [] pos) (tiEnum te) := by
  obtain ⟨t1, p1, d1⟩ := he.ex
  refine ⟨_, pi_enum hg hm (pa_cons p1 pa_nil hs) hs, fun {Z I W H σ ρ Rd Ed R} S R0 h k sx => ?_⟩
  refine d1 S R0 h (fun x W1 v I1 H1 e1 S1 r1 h1 => ?_) sx
  cases x with
  | lst xs =>
    cases r1 with
    | @lst a vs _ q1 q2 =>
      refine ⟨a, vs, rfl, .inl (.inl (S1.imm _ _ q1)), k _ _ W1 I1 H1 _ e1 S1 ?_ h1⟩
      have hl := q2.length
      refine ⟨fun i Z I' W H hi e S _ => ?_, fun i d Z I' W H x H' hd e S _ y => ?_, fun Z I' W H e S _ => ⟨vs, .inl (.inl (S.imm _ _ (e _ _ q1))), by rw [enD_length]; omega⟩⟩
      · rw [enD_length] at hi
        exact ⟨vs, vs[i]'(by omega), .inl (.inl (S.imm _ _ (e _ _ q1))), by simp⟩
      · obtain ⟨T, x', rfl, hT, rfl, y⟩ := y
        obtain ⟨d', h3, rfl⟩ := enD_get 0 i xs d hd
        have hx := y vs (.inl (.inl (S.imm _ _ (e _ _ q1))))
        obtain ⟨d2, h4, h5⟩ := q2.get' hx
        rw [h3] at h4; cases h4
        obtain ⟨S2, e2⟩ := S.lay hT (.tup [.int (i : Nat), x'])
        exact ⟨_, e2, S2, .tup (.inl (.inl upd_same)) (.cons (by rw [Nat.zero_add]; exact .int _) (.cons (h5.mono (e.trans e2)) .nil))⟩
  | _ => exact h1.elim
/-- reversed(xs) -/
def tiRev (te : TD) : TId := fun ρ W R E => te ρ W (fun x W1 => match x with
  | .lst xs => R xs.reverse (fun _ => True) W1
  | .ref a => match W1 a with
    | some (.lst xs) => R xs.reverse (fun W => W a = some (.lst xs)) W1
    | _ => False
  | _ => False) E
@[simp ↓] theorem tiRev_u (te : TD) : ∀ ρ W R E, tiRev te ρ W R E = (te ρ W (fun x W1 => match x with
  | .lst xs => R xs.reverse (fun _ => True) W1
  | .ref a => match W1 a with
    | some (.lst xs) => R xs.reverse (fun W => W a = some (.lst xs)) W1
    | _ => False
  | _ => False) E) := fun _ _ _ _ => propext Iff.rfl
end
end DL

/-! DL6: comprehensions, calls of defs, attributes, dict displays. -/
namespace DL
open PySem PySem.Spec PyProof.Rows L2

theorem wipe_wipe (σ : L2.St) (vs : List Nat) : ∀ us : List Nat, (∀ i ∈ us, i ∈ vs) → wipe (wipe σ vs) us = wipe σ vs
  | [], _ => rfl
  | u :: us, h => by
    show (wipe (wipe σ vs) us).set u none = wipe σ vs
    rw [wipe_wipe σ vs us fun i hi => h i (List.mem_cons_of_mem _ hi)]
    apply List.ext_getElem?
    intro k
    by_cases hk : u = k
    · subst hk
      by_cases hlt : u < (wipe σ vs).length
      · rw [List.getElem?_set_self hlt]
        cases e : (wipe σ vs)[u]? with
        | none => rw [List.getElem?_eq_none_iff] at e; omega
        | some o =>
          cases o with
          | none => rfl
          | some v => exact absurd (h u List.mem_cons_self) (wipe_some e).2
      · rw [List.getElem?_eq_none (by simp; omega), List.getElem?_eq_none (by omega)]
    · rw [List.getElem?_set_ne hk]

@[simp] def E0d : XD := fun _ _ _ => False
theorem simX0 {K : PySem.W.Frag} {Z I : Hp} : SimX K Z I E0d L2.E0 := fun _ _ _ _ _ _ _ _ _ _ _ h => h
/-- the turns of a comprehension -/
def lcL (tg : Tg) (tt : TTd) (te : TD) (ρ : DEnv) (G : Wd → Prop) : List D → List D → Wd → (List D → Wd → Prop) → Prop
  | [], acc, W, k => G W ∧ k acc W
  | x :: xs, acc, W, k => G W ∧ asgT tg x ρ W fun ρ2 W2 => tt ρ2 W2 (fun b W3 => if b = true then te ρ2 W3 (fun y W4 => lcL tg tt te ρ G xs (acc ++ [y]) W4 k) E0d else lcL tg tt te ρ G xs acc W3 k) E0d
def tdLc (ti : TId) (tg : Tg) (tt : TTd) (te : TD) (vs : List Nat) : TD := fun ρ W Q E => ti ρ W (fun xs G W1 => xs.length ≤ sizeLine ∧ lcL tg tt te (wipeS ρ vs) G xs [] W1 fun acc W2 => Q (.lst acc) W2) E
@[simp ↓] theorem tdLc_u (ti : TId) (tg : Tg) (tt : TTd) (te : TD) (vs : List Nat) : ∀ ρ W Q E, tdLc ti tg tt te vs ρ W Q E = (ti ρ W (fun xs G W1 => xs.length ≤ sizeLine ∧ lcL tg tt te (wipeS ρ vs) G xs [] W1 fun acc W2 => Q (.lst acc) W2) E) := fun _ _ _ _ => propext Iff.rfl
def tdLcM (ti : TId) (tg : Tg) (tt : TTd) (te : TD) (vs : List Nat) : TD := fun ρ W Q E => ti ρ W (fun xs G W1 => xs.length ≤ sizeLine ∧ lcL tg tt te (wipeS ρ vs) G xs [] W1 fun acc W2 => ∀ p, W2 p = none → Q (.ref p) (updW W2 p (.lst acc))) E
@[simp ↓] theorem tdLcM_u (ti : TId) (tg : Tg) (tt : TTd) (te : TD) (vs : List Nat) : ∀ ρ W Q E, tdLcM ti tg tt te vs ρ W Q E = (ti ρ W (fun xs G W1 => xs.length ≤ sizeLine ∧ lcL tg tt te (wipeS ρ vs) G xs [] W1 fun acc W2 => ∀ p, W2 p = none → Q (.ref p) (updW W2 p (.lst acc))) E) := fun _ _ _ _ => propext Iff.rfl
section
variable {X : Cx} {E : XK} {j : Nat}
/-- the context of the block -/
theorem Ct.blk (c : Ct X E j) (s : Shared) (H : Hp) (scope : Scope) (cenv : Env) (fp : List Addr) : Ct (X.blk s H scope cenv fp) L2.E0 j := ⟨c.calm, PassesOwn.never, passL, c.room, c.nd⟩
theorem den_lc {K : PySem.W.Frag} {wi : TI} {ti : TId} {tg : Tg} {tt : TTd} {te : TD} {vs : List Nat} (hv : ∀ i ∈ tg.slots, i ∈ vs)
    (di : ∀ {Z I : Hp} {W : Wd} {H : Hp} {σ : L2.St} {ρ : DEnv} {Rd : List D → (Wd → Prop) → Wd → Prop} {Ed : XD} {R : It → Hp → Prop}, SR K Z I W H → EnvR K I σ ρ → ti ρ W Rd Ed →
      (∀ xs G W' I' H' J, Same I I' → SR K Z I' W' H' → Iter K I' xs G J → Rd xs G W' → R J H') → SimX K Z I Ed E → wi σ H R)
    {Z I : Hp} {W : Wd} {H : Hp} {σ : L2.St} {ρ : DEnv} {Qk : List D → Wd → Prop} {Ed : XD} {Q : VK} (S : SR K Z I W H) (R : EnvR K I σ ρ)
    (h : ti ρ W (fun xs G W1 => xs.length ≤ sizeLine ∧ lcL tg tt te (wipeS ρ vs) G xs [] W1 Qk) Ed)
    (fin : ∀ D acc vacc I' W' H', Same I I' → Z D = none → SR K (upd Z D (.lst vacc)) I' W' H' → RepL K I' acc vacc → Qk acc W' → Q (.ref D) H') (sx : SimX K Z I Ed E) :
    tLc wi (gOf K tg) (ttOf K L2.E0 tt) (tOf K L2.E0 te) vs σ H Q := by
  refine di S R h (fun xs G W1 I1 H1 J e1 S1 it h1 => ?_) sx
  obtain ⟨hz, h1⟩ := h1
  intro D hD
  have hZ := S1.newZ hD
  refine ⟨fun i m H' => m = xs.length - i ∧ i ≤ xs.length ∧ ∃ I' W' acc vacc, Same I1 I' ∧ SR K (upd Z D (.lst vacc)) I' W' H' ∧ RepL K I' acc vacc ∧ acc.length ≤ i ∧ lcL tg tt te (wipeS ρ vs) G (xs.drop i) acc W' Qk,
    ⟨xs.length, by simp, Nat.zero_le _, I1, W1, [], [], Same.refl _, S1.hide hD _, .nil, Nat.le_refl _, h1⟩, ?_⟩
  rintro i m H' ⟨rfl, hi, I', W', acc, vacc, e2, S2, ra, hacc, hl⟩
  by_cases hlt : i < xs.length
  · have ed : xs.drop i = xs[i] :: xs.drop (i + 1) := List.drop_eq_getElem_cons hlt
    rw [ed] at hl
    obtain ⟨hG, hl⟩ := hl
    refine .inr ⟨it.go i _ I' W' H' hlt e2 S2 hG, fun H2 => ∃ I' W' acc vacc, Same I1 I' ∧ SR K (upd Z D (.lst vacc)) I' W' H2 ∧ RepL K I' acc vacc ∧ acc.length ≤ i + 1 ∧ lcL tg tt te (wipeS ρ vs) G (xs.drop (i + 1)) acc W' Qk,
      fun H2 q => ⟨xs.length - (i + 1), by omega, rfl, hlt, q⟩, fun x H2 y => ?_⟩
    obtain ⟨I2, e3, S3, rx⟩ := it.yld i xs[i] _ I' W' H' x H2 (by simp) e2 S2 hG y
    have e13 := e1.trans (e2.trans e3)
    refine g_sim S3 rx ((R.mono e13).wipe vs) hl fun σ' ρ' R' ht hw => ⟨?_, ?_⟩
    · have z := hw vs hv σ (wipe_wipe σ vs vs fun _ hi => hi)
      exact z
    · refine ⟨_, I2, W', ρ', _, E0d, S3, R', ht, fun b W4 I4 H4 e4 S4 h4 => ?_, simX0⟩
      cases b with
      | true =>
        simp only [if_true] at h4 ⊢
        refine ⟨_, I4, W4, ρ', _, E0d, S4, R'.mono e4, h4, fun y W5 v I5 H5 e5 S5 r5 h5 => ?_, simX0⟩
        obtain ⟨q1, q2, q3⟩ := S5.hidden
        have ra5 := ra.mono (e3.trans (e4.trans e5))
        refine ⟨vacc, q1, ?_, I5, W5, acc ++ [y], vacc ++ [v], e2.trans (e3.trans (e4.trans e5)), S5.rehide _, ra5.append (.cons r5 .nil), ?_, h5⟩
        · rw [← ra.length]; omega
        · rw [List.length_append, List.length_singleton]; omega
      | false =>
        simp only [Bool.false_eq_true, if_false] at h4 ⊢
        exact ⟨I4, W4, acc, vacc, e2.trans (e3.trans e4), S4, ra.mono (e3.trans e4), by omega, h4⟩
  · have e : i = xs.length := by omega
    subst e
    rw [List.drop_length] at hl
    obtain ⟨hG, hl⟩ := hl
    exact .inl ⟨it.stop _ I' W' H' e2 S2 hG, fin D acc vacc I' W' H' (e1.trans e2) hZ S2 ra hl⟩
variable {elt tg iter : Expr} {ifs : List Expr} {scope : Scope} {own : List (Str × Nat)} {pos : Pos} {ti : TId} {tgt : Tg} {tt : TTd} {te : TD}
theorem de_lc (c : Ct X E j) (hi : DI X E tg iter ti) (ok : blkC X.N X.env.scope scope own = true)
    (hg : ∀ (s : Shared) (H : Hp) (C : Addr) (cl : List (Str × Addr)) (fp : List Addr), PGt (X.blk s H scope (compEnvC scope cl C X.env) fp) tg tgt)
    (ht : ∀ (s : Shared) (H : Hp) (C : Addr) (cl : List (Str × Addr)) (fp : List Addr), DTs (X.blk s H scope (compEnvC scope cl C X.env) fp) L2.E0 ifs tt)
    (he : ∀ (s : Shared) (H : Hp) (C : Addr) (cl : List (Str × Addr)) (fp : List Addr), DE (X.blk s H scope (compEnvC scope cl C X.env) fp) L2.E0 elt te) (hv : ∀ i ∈ tgt.slots, i ∈ own.map (·.2) := by decide) (hs : ∀ x, foldedSetIterable iter X.env x = pure x := by intro _; rfl) :
    DE X E (.ListComp elt [⟨tg, iter, ifs, 0⟩] scope pos) (tdLc ti tgt tt te (own.map (·.2))) := by
  obtain ⟨wi, p1, d1⟩ := hi.ex
  refine ⟨_, pe_lc (g := gOf X.K tgt) (tt := ttOf X.K L2.E0 tt) (te := tOf X.K L2.E0 te) c.calm c.nd p1 (blkOk_by ok) (fun s H C cl fp => (hg s H C cl fp).pg) (fun s H C cl fp => (ht s H C cl fp).pts) (fun s H C cl fp => (he s H C cl fp).pe) hs, fun {Z I W H σ ρ Qd Ed Q} S R h sv sx => ?_⟩
  refine den_lc hv d1 S R h (fun D acc vacc I' W' H' e hZ S' ra q => ?_) sx
  obtain ⟨S2, e2⟩ := S'.unhide hZ
  exact sv _ W' _ _ H' (e.trans e2) S2 (.lst upd_same (ra.mono e2)) q
theorem de_lcM (c : Ct X E j) (hi : DI X E tg iter ti) (ok : blkC X.N X.env.scope scope own = true)
    (hg : ∀ (s : Shared) (H : Hp) (C : Addr) (cl : List (Str × Addr)) (fp : List Addr), PGt (X.blk s H scope (compEnvC scope cl C X.env) fp) tg tgt)
    (ht : ∀ (s : Shared) (H : Hp) (C : Addr) (cl : List (Str × Addr)) (fp : List Addr), DTs (X.blk s H scope (compEnvC scope cl C X.env) fp) L2.E0 ifs tt)
    (he : ∀ (s : Shared) (H : Hp) (C : Addr) (cl : List (Str × Addr)) (fp : List Addr), DE (X.blk s H scope (compEnvC scope cl C X.env) fp) L2.E0 elt te) (hv : ∀ i ∈ tgt.slots, i ∈ own.map (·.2) := by decide) (hs : ∀ x, foldedSetIterable iter X.env x = pure x := by intro _; rfl) :
    DE X E (.ListComp elt [⟨tg, iter, ifs, 0⟩] scope pos) (tdLcM ti tgt tt te (own.map (·.2))) := by
  obtain ⟨wi, p1, d1⟩ := hi.ex
  refine ⟨_, pe_lc (g := gOf X.K tgt) (tt := ttOf X.K L2.E0 tt) (te := tOf X.K L2.E0 te) c.calm c.nd p1 (blkOk_by ok) (fun s H C cl fp => (hg s H C cl fp).pg) (fun s H C cl fp => (ht s H C cl fp).pts) (fun s H C cl fp => (he s H C cl fp).pe) hs, fun {Z I W H σ ρ Qd Ed Q} S R h sv sx => ?_⟩
  refine den_lc hv d1 S R h (fun D acc vacc I' W' H' e hZ S' ra q => ?_) sx
  have hW := S'.hidden
  exact sv _ _ _ I' H' e (S'.unhideM (c := .lst acc) hZ ⟨vacc, hW.1, ra⟩) (.ref D) (q D hW.2.2)

/-! ### calls of defs -/
abbrev SpD := List D → Wd → QD → XD → Prop
def liftS (K : PySem.W.Frag) (spd : SpD) : Sp := fun vs H Q E => ∃ (Z I : Hp) (W : Wd) (ds : List D) (Qd : QD) (Ed : XD), SR K Z I W H ∧ RepL K I ds vs ∧ spd ds W Qd Ed ∧ SimV K Z I Qd Q ∧ SimX K Z I Ed E
/-- a def that may be called by its name -/
structure Cd (P : Program) (w : World) (K : PySem.W.Frag) (mg : Str → Option Value) (base : Heap) (k : Nat) (x : Str) (spd : SpD) : Prop where
  ex : ∃ (f : Addr) (fd : FuncData) (ps : List Str), FnOk P w K mg base (L2.CX P w) k f fd ps (liftS K spd) ∧ mg x = some (.ref f) ∧ PySem.W.keepIn K (.ref f) = true ∧ Binds K fd ps []
/-- a method of the class at C -/
structure Md (P : Program) (w : World) (K : PySem.W.Frag) (mg : Str → Option Value) (base : Heap) (k : Nat) (C : Addr) (m : Str) (spd : SpD) : Prop where
  ex : ∃ (f : Addr) (fd : FuncData) (ps : List Str), Cls K C ∧ Meth K C m f ∧ FnOk P w K mg base (L2.CX P w) k f fd ps (liftS K spd) ∧ Binds K fd ps []
/-- a class that is made by its name -/
structure Kd (P : Program) (w : World) (K : PySem.W.Frag) (mg : Str → Option Value) (base : Heap) (k : Nat) (x : Str) (C : Addr) (spd : SpD) : Prop where
  ex : ∃ (f : Addr) (fd : FuncData) (ps : List Str), Mk K C f ∧ FnOk P w K mg base (L2.CX P w) k f fd ps (liftS K spd) ∧ mg x = some (.ref C) ∧ Binds K fd ps []
theorem Cd.imp {P : Program} {w : World} {K : PySem.W.Frag} {mg : Str → Option Value} {base : Heap} {k : Nat} {x : Str} {sp sp' : SpD} (c : Cd P w K mg base k x sp) (h : ∀ ds W Q E, sp' ds W Q E → sp ds W Q E) : Cd P w K mg base k x sp' := by
  obtain ⟨f, fd, ps, F, m, kp, b⟩ := c.ex
  exact ⟨f, fd, ps, F.imp fun vs H Q E ⟨Z, I, W, ds, Qd, Ed, S, r, q, r2⟩ => ⟨Z, I, W, ds, Qd, Ed, S, r, h _ _ _ _ q, r2⟩, m, kp, b⟩
def tdCall (spd : SpD) (ta : TAd) : TD := fun ρ W Q E => ta ρ W (fun ds W1 => spd ds W1 Q E) E
@[simp ↓] theorem tdCall_u (spd : SpD) (ta : TAd) : ∀ ρ W Q E, tdCall spd ta ρ W Q E = (ta ρ W (fun ds W1 => spd ds W1 Q E) E) := fun _ _ _ _ => propext Iff.rfl
variable {k : Nat} {x m : Str} {spd : SpD} {e o : Expr} {es : List Expr} {tr : TAd} {to_ : TD} {p apos : Pos} {C : Addr}
theorem de_call (c : Ct X E j) (f : Cd X.prog X.w X.K X.mg X.base k x spd) (ha : DA X E (e :: es) tr) (hk : k ≤ j := by decide) (hg : Gl X x := by rfl)
    (hdb : (x == ("__debug__" : Str)) = false := by decide) (he : starEach (e :: es) X.env = (false, eval e X.env) :: starEach es X.env := by rfl) (hpl : (backTo pos (starEach es X.env)).any (·.1) = false := by rfl) :
    DE X E (.Call (.Name x p) (e :: es) [] pos) (tdCall spd tr) := by
  obtain ⟨fa, fd, ps, F, hm, kp, b⟩ := f.ex
  obtain ⟨t1, p1, d1⟩ := ha.ex
  refine ⟨_, pe_call F (c.room.mono hk) hg hm kp b .nil c.pass p1 hdb he hpl, fun {Z I W H σ ρ Qd Ed Q} S R h sv sx => ?_⟩
  refine d1 S R h (fun ds W1 vs I1 H1 e1 S1 r1 h1 => ?_) sx
  show liftS X.K spd (vs ++ []) H1 Q E
  rw [List.append_nil]
  exact ⟨Z, I1, W1, ds, Qd, Ed, S1, r1, h1, sv.mono e1, sx.mono e1⟩
def tdMeth (C : Addr) (m : Str) (spd : SpD) (to_ : TD) (ta : TAd) : TD := fun ρ W Q E => to_ ρ W (fun x W1 => match x with
  | .ins C' fs => C' = C ∧ fs.lookup m = none ∧ ta ρ W1 (fun ds W2 => spd (.ins C' fs :: ds) W2 Q E) E
  | .ref a => match W1 a with
    | some (.ins C' fs) => C' = C ∧ fs.lookup m = none ∧ ta ρ W1 (fun ds W2 => spd (.ref a :: ds) W2 Q E) E
    | _ => False
  | _ => False) E
theorem ins_of {K : PySem.W.Frag} {Z I H : Hp} {W : Wd} {a C : Addr} {fs : List (Str × D)} (S : SR K Z I W H) (h : W a = some (.ins C fs)) : ∃ dx fv, H a = some (.ins C dx fv) ∧ RepG K I fs fv := (S.cell a _ h).2
theorem de_meth {pl : Sem Bool} (c : Ct X E j) (f : Md X.prog X.w X.K X.mg X.base k C m spd) (ho : DE X E o to_) (ha : DA X E (e :: es) tr) (hk : k ≤ j := by decide)
    (hst : starEach (e :: es) X.env = (false, eval e X.env) :: starEach es X.env := by rfl) (hpl : (backTo pos (starEach es X.env)).any (·.1) = false := by rfl)
    (ht : eval (.Call (.Attribute o m apos) (e :: es) [] pos) X.env = (do
      let ov ← eval o X.env
      standAt apos.atName
      let (f, first) ← holding [ov] (getMethod ov m pl)
      callWith pos f first (backTo pos (starEach (e :: es) X.env)) (backToKw pos (keywordEach [] X.env))) := by rfl) :
    DE X E (.Call (.Attribute o m apos) (e :: es) [] pos) (tdMeth C m spd to_ tr) := by
  obtain ⟨fa, fd, ps, cl, me, F, b⟩ := f.ex
  obtain ⟨t0, p0, d0⟩ := ho.ex
  obtain ⟨t1, p1, d1⟩ := ha.ex
  refine ⟨_, pe_meth (pl := pl) p0 cl me F (c.room.mono hk) b .nil c.pass p1 hst hpl ht, fun {Z I W H σ ρ Qd Ed Q} S R h sv sx => ?_⟩
  refine d0 S R h (fun x W1 v I1 H1 e1 S1 r1 h1 => ?_) sx
  have go : ∀ {a : Addr} {x : D}, Rep X.K I1 x (.ref a) → tr ρ W1 (fun ds W2 => spd (x :: ds) W2 Qd Ed) Ed → t1 σ H1 fun vs H2 => liftS X.K spd (.ref a :: (vs ++ [])) H2 Q E := fun {a x} rx h2 => by
    refine d1 S1 (R.mono e1) h2 (fun ds W2 vs I2 H2 e2 S2 r2 h3 => ?_) (sx.mono e1)
    rw [List.append_nil]
    exact ⟨Z, I2, W2, _, Qd, Ed, S2, .cons (rx.mono e2) r2, h3, sv.mono (e1.trans e2), sx.mono (e1.trans e2)⟩
  cases x with
  | ins C' fs =>
    obtain ⟨rfl, hl, h2⟩ := h1
    cases r1 with
    | @ins a _ dx fv _ q1 q2 => exact ⟨a, dx, fv, rfl, S1.imm _ _ q1, q2.lookup_none hl, go (.ins q1 q2) h2⟩
  | ref a =>
    cases r1
    cases hw : W1 a with
    | none => simp only [hw] at h1
    | some cc =>
      cases cc with
      | ins C' fs =>
        simp only [hw] at h1
        obtain ⟨rfl, hl, h2⟩ := h1
        obtain ⟨dx, fv, q1, q2⟩ := ins_of S1 hw
        exact ⟨a, dx, fv, rfl, q1, q2.lookup_none hl, go (.ref a) h2⟩
      | lst xs => simp only [hw] at h1
      | dk kvs => simp only [hw] at h1
      | xd kvs => simp only [hw] at h1
      | dn hs kvs => simp only [hw] at h1
      | tab q => simp only [hw] at h1
      | fn o c q => simp only [hw] at h1
  | _ => exact h1.elim
theorem de_meth0 {pl : Sem Bool} (c : Ct X E j) (f : Md X.prog X.w X.K X.mg X.base k C m spd) (ho : DE X E o to_) (hk : k ≤ j := by decide)
    (ht : eval (.Call (.Attribute o m apos) [] [] pos) X.env = (do
      let ov ← eval o X.env
      standAt apos.atName
      let (f, first) ← holding [ov] (getMethod ov m pl)
      callWith pos f first (backTo pos (starEach [] X.env)) (backToKw pos (keywordEach [] X.env))) := by rfl) :
    DE X E (.Call (.Attribute o m apos) [] [] pos) (tdMeth C m spd to_ tdNil) := by
  obtain ⟨fa, fd, ps, cl, me, F, b⟩ := f.ex
  obtain ⟨t0, p0, d0⟩ := ho.ex
  refine ⟨_, pe_meth0 (pl := pl) p0 cl me F (c.room.mono hk) b .nil c.pass ht, fun {Z I W H σ ρ Qd Ed Q} S R h sv sx => ?_⟩
  refine d0 S R h (fun x W1 v I1 H1 e1 S1 r1 h1 => ?_) sx
  have go : ∀ {a : Addr} {x : D}, Rep X.K I1 x (.ref a) → spd [x] W1 Qd Ed → liftS X.K spd [.ref a] H1 Q E := fun {a x} rx h2 =>
    ⟨Z, I1, W1, _, Qd, Ed, S1, .cons rx .nil, h2, sv.mono e1, sx.mono e1⟩
  cases x with
  | ins C' fs =>
    obtain ⟨rfl, hl, h2⟩ := h1
    cases r1 with
    | @ins a _ dx fv _ q1 q2 => exact ⟨a, dx, fv, rfl, S1.imm _ _ q1, q2.lookup_none hl, go (.ins q1 q2) h2⟩
  | ref a =>
    cases r1
    cases hw : W1 a with
    | none => simp only [hw] at h1
    | some cc =>
      cases cc with
      | ins C' fs =>
        simp only [hw] at h1
        obtain ⟨rfl, hl, h2⟩ := h1
        obtain ⟨dx, fv, q1, q2⟩ := ins_of S1 hw
        exact ⟨a, dx, fv, rfl, q1, q2.lookup_none hl, go (.ref a) h2⟩
      | lst xs => simp only [hw] at h1
      | dk kvs => simp only [hw] at h1
      | xd kvs => simp only [hw] at h1
      | dn hs kvs => simp only [hw] at h1
      | tab q => simp only [hw] at h1
      | fn o c q => simp only [hw] at h1
  | _ => exact h1.elim
/-- C(..): a new instance as a cell, then __init__ -/
def tdMake (C : Addr) (spd : SpD) (ta : TAd) : TD := fun ρ W Q E => ta ρ W (fun ds W1 => ∀ a, W1 a = none → spd (.ref a :: ds) (updW W1 a (.ins C [])) (fun d W2 => d = .non ∧ Q (.ref a) W2) E) E
@[simp ↓] theorem tdMake_u (C : Addr) (spd : SpD) (ta : TAd) : ∀ ρ W Q E, tdMake C spd ta ρ W Q E = (ta ρ W (fun ds W1 => ∀ a, W1 a = none → spd (.ref a :: ds) (updW W1 a (.ins C [])) (fun d W2 => d = .non ∧ Q (.ref a) W2) E) E) := fun _ _ _ _ => propext Iff.rfl
theorem de_make (c : Ct X E j) (f : Kd X.prog X.w X.K X.mg X.base k x C spd) (ha : DA X E (e :: es) tr) (hk : k + 1 ≤ j := by decide) (hg : Gl X x := by rfl)
    (hdb : (x == ("__debug__" : Str)) = false := by decide) (he : starEach (e :: es) X.env = (false, eval e X.env) :: starEach es X.env := by rfl) (hpl : (backTo pos (starEach es X.env)).any (·.1) = false := by rfl) :
    DE X E (.Call (.Name x p) (e :: es) [] pos) (tdMake C spd tr) := by
  obtain ⟨fa, fd, ps, M, F, hm, b⟩ := f.ex
  obtain ⟨t1, p1, d1⟩ := ha.ex
  refine ⟨_, pe_make M F (c.room.mono hk) hg hm b .nil c.pass p1 hdb he hpl, fun {Z I W H σ ρ Qd Ed Q} S R h sv sx => ?_⟩
  refine d1 S R h (fun ds W1 vs I1 H1 e1 S1 r1 h1 => ?_) sx
  intro y dx hy hdx ne
  rw [List.append_nil]
  have S2 := S1.lay0 hdx (.own y)
  have hy2 : upd H1 dx (.own y) y = none := by rw [upd_ne (Ne.symm ne)]; exact hy
  have S3 := S2.put (p := y) (S1.newI hy) (S1.newZ hy) (o := .ins C dx []) (c := .ins C []) ⟨dx, [], upd_same, .nil⟩
  refine ⟨Z, I1, _, _, _, Ed, S3, .cons (.ref y) r1, h1 y (S1.newW hy), fun d W2 v I2 H2 e2 S4 r4 h4 => ?_, sx.mono e1⟩
  obtain ⟨rfl, q⟩ := h4
  cases r4
  exact ⟨rfl, sv _ W2 _ I2 H2 (e1.trans e2) S4 (.ref y) q⟩
/-- an instance that was made stays as it is from here on -/
def tdFrzI (ta : TD) : TD := fun ρ W Q E => ta ρ W (fun d W1 => ∃ p C fs, d = .ref p ∧ W1 p = some (.ins C fs) ∧ Q (.ins C fs) (delW W1 p)) E
@[simp ↓] theorem tdFrzI_u (ta : TD) : ∀ ρ W Q E, tdFrzI ta ρ W Q E = (ta ρ W (fun d W1 => ∃ p C fs, d = .ref p ∧ W1 p = some (.ins C fs) ∧ Q (.ins C fs) (delW W1 p)) E) := fun _ _ _ _ => propext Iff.rfl
theorem de_frzI {td : TD} (h : DE X E e td) : DE X E e (tdFrzI td) := by
  obtain ⟨t1, p1, d1⟩ := h.ex
  refine ⟨_, p1, fun {Z I W H σ ρ Qd Ed Q} S R h sv sx => ?_⟩
  refine d1 S R h (fun d W1 v I1 H1 e1 S1 r1 h1 => ?_) sx
  obtain ⟨p, C, fs, rfl, hp, q⟩ := h1
  cases r1
  obtain ⟨hI, dx, fv, hH, rv⟩ := S1.cell p _ hp
  obtain ⟨S2, e2⟩ := S1.freeze hH hI ⟨_, hp⟩
  exact sv _ _ _ _ _ (e1.trans e2) S2 (.ins upd_same (rv.mono e2)) q

/-! ### attributes -/
/-- what the class must have for o.f -/
structure FldOk (K : PySem.W.Frag) (C : Addr) (f : Str) : Prop where
  cl : Cls K C
  na : NoAttr K C f
def tdFld (C : Addr) (f : Str) (to_ : TD) : TD := fun ρ W Q E => to_ ρ W (fun x W1 => match x with
  | .ins C' fs => C' = C ∧ match fs.lookup f with
    | some d => Q d W1
    | none => False
  | .ref a => match W1 a with
    | some (.ins C' fs) => C' = C ∧ match fs.lookup f with
      | some d => Q d W1
      | none => False
    | _ => False
  | _ => False) E
variable {f : Str}
theorem de_fld (hf : FldOk X.K C f) (ho : DE X E o to_) (hb : attributeBase o f X.env (eval o X.env) = eval o X.env := by rfl) : DE X E (.Attribute o f pos) (tdFld C f to_) := by
  obtain ⟨t0, p0, d0⟩ := ho.ex
  refine ⟨_, pe_fld p0 hb, fun {Z I W H σ ρ Qd Ed Q} S R h sv sx => ?_⟩
  refine d0 S R h (fun x W1 v I1 H1 e1 S1 r1 h1 => ?_) sx
  cases x with
  | ins C' fs =>
    obtain ⟨rfl, h2⟩ := h1
    cases r1 with
    | @ins a _ dx fv _ q1 q2 =>
      cases e : fs.lookup f with
      | none => rw [e] at h2; exact h2.elim
      | some d =>
        rw [e] at h2
        obtain ⟨w, hw, r⟩ := q2.lookup e
        exact ⟨a, _, dx, fv, w, rfl, S1.imm _ _ q1, hf.cl, hf.na, hw, sv _ W1 _ I1 H1 e1 S1 r h2⟩
  | ref a =>
    cases r1
    cases hw : W1 a with
    | none => simp only [hw] at h1
    | some cc =>
      cases cc with
      | ins C' fs =>
        simp only [hw] at h1
        obtain ⟨rfl, h2⟩ := h1
        obtain ⟨dx, fv, q1, q2⟩ := ins_of S1 hw
        cases e : fs.lookup f with
        | none => rw [e] at h2; exact h2.elim
        | some d =>
          rw [e] at h2
          obtain ⟨w, hw, r⟩ := q2.lookup e
          exact ⟨a, _, dx, fv, w, rfl, q1, hf.cl, hf.na, hw, sv _ W1 _ I1 H1 e1 S1 r h2⟩
      | lst xs => simp only [hw] at h1
      | dk kvs => simp only [hw] at h1
      | xd kvs => simp only [hw] at h1
      | dn hs kvs => simp only [hw] at h1
      | tab q => simp only [hw] at h1
      | fn o c q => simp only [hw] at h1
  | _ => exact h1.elim

/-! ### a written dict with text keys -/
structure DPs (X : Cx) (E : XK) (pos : Pos) (keys : List (Option Expr)) (values : List Expr) (ks : List Str) (ta : TAd) : Prop where
  ex : ∃ trs : List (TE × TE), PPs X pos keys values trs ∧ ∀ {Z I : Hp} {W : Wd} {H : Hp} {σ : L2.St} {ρ : DEnv} {Qd : List D → Wd → Prop} {Ed : XD} {Q : List (V × V) → Hp → Prop}, SR X.K Z I W H → EnvR X.K I σ ρ → ta ρ W Qd Ed →
    (∀ ds W' vs I' H', Same I I' → SR X.K Z I' W' H' → RepL X.K I' ds vs → ds.length = ks.length → Qd ds W' → Q (ks.zip vs |>.map fun p => (V.str p.1, p.2)) H') → SimX X.K Z I Ed E → tPairs trs σ H Q
theorem dps_nil : DPs X E pos [] [] [] tdNil := ⟨[], pps_nil, fun {Z I W H σ ρ Qd Ed Q} S R h k sx => k [] W [] I H (Same.refl I) S .nil rfl h⟩
theorem dps_cons {ky : Str} {j' : Nat} {kp : Pos} {v : Expr} {keys : List (Option Expr)} {values : List Expr} {ks : List Str} {tv : TD} {ta : TAd} (hv : DE X E v tv) (hr : DPs X E pos keys values ks ta) :
    DPs X E pos (some (.Constant (.str ky) j' kp) :: keys) (v :: values) (ky :: ks) (tdCons tv ta) := by
  obtain ⟨t1, p1, d1⟩ := hv.ex
  obtain ⟨trs, p2, d2⟩ := hr.ex
  refine ⟨_, pps_cons pe_str p1 p2, fun {Z I W H σ ρ Qd Ed Q} S R h k sx => ?_⟩
  refine d1 S R h (fun x W1 v I1 H1 e1 S1 r1 h1 => ?_) sx
  refine d2 S1 (R.mono e1) h1 (fun ds W2 vs I2 H2 e2 S2 r2 hl h2 => ?_) (sx.mono e1)
  exact k _ W2 _ I2 H2 (e1.trans e2) S2 (.cons (r1.mono e2) r2) (by simpa using hl) h2
def tdDisp (ks : List Str) (ta : TAd) : TD := fun ρ W Q E => ta ρ W (fun ds W1 => Q (.dk (ks.zip ds)) W1) E
@[simp ↓] theorem tdDisp_u (ks : List Str) (ta : TAd) : ∀ ρ W Q E, tdDisp ks ta ρ W Q E = (ta ρ W (fun ds W1 => Q (.dk (ks.zip ds)) W1) E) := fun _ _ _ _ => propext Iff.rfl
def tdDispM (ks : List Str) (ta : TAd) : TD := fun ρ W Q E => ta ρ W (fun ds W1 => ∀ p, W1 p = none → Q (.ref p) (updW W1 p (.dk (ks.zip ds)))) E
@[simp ↓] theorem tdDispM_u (ks : List Str) (ta : TAd) : ∀ ρ W Q E, tdDispM ks ta ρ W Q E = (ta ρ W (fun ds W1 => ∀ p, W1 p = none → Q (.ref p) (updW W1 p (.dk (ks.zip ds)))) E) := fun _ _ _ _ => propext Iff.rfl
theorem putK_fresh {kvs : List (Key × V)} {k : Key} {v : V} (h : k ∉ kvs.map (·.1)) : putK kvs k v = kvs ++ [(k, v)] := by
  refine putK_new _ ?_
  have := valV_any k kvs
  cases e : valV kvs k with
  | none => rfl
  | some u =>
    rw [e] at this
    simp only [Option.isSome_some, List.any_eq_true, decide_eq_true_eq] at this
    obtain ⟨p, hp, e2⟩ := this
    exact absurd (List.mem_map.mpr ⟨p, hp, e2⟩) h
theorem mergeK_nodup : ∀ (more kvs : List (Key × V)), ((kvs ++ more).map (·.1)).Nodup → mergeK kvs more = kvs ++ more
  | [], kvs, _ => by rw [List.append_nil]; rfl
  | p :: more, kvs, h => by
    show mergeK (putK kvs p.1 p.2) more = _
    have hp : p.1 ∉ kvs.map (·.1) := by
      rw [List.map_append, List.nodup_append] at h
      intro hm
      exact h.2.2 _ hm _ (by rw [List.map_cons]; exact List.mem_cons_self) rfl
    rw [putK_fresh hp, mergeK_nodup more (kvs ++ [(p.1, p.2)]) (by rw [List.append_assoc]; exact h), List.append_assoc]
    rfl
theorem repK_zip {K : PySem.W.Frag} {I : Hp} : ∀ {ks : List Str} {ds : List D} {vs : List V}, RepL K I ds vs → ds.length = ks.length → RepK K I (ks.zip ds) (ks.zip vs |>.map fun p => ((Sum.inr p.1 : Key), p.2))
  | [], [], _, .nil, _ => .nil
  | [], _ :: _, _, _, h => by simp at h
  | _ :: _, [], _, _, h => by simp at h
  | k :: ks, d :: ds, _, .cons r t, h => .cons r (repK_zip t (by simpa using h))
theorem de_disp {keys : List (Option Expr)} {values : List Expr} {ks : List Str} {ta : TAd} (h : DPs X E pos keys values ks ta) (nd : ks.Nodup := by decide) (hall : keys.all (·.isSome) = true := by rfl) (hl : keys.length = values.length := by rfl) (h0 : keys ≠ [] := by exact fun z => by cases z)
    (h15 : keys.length ≤ 15 := by decide) (hk : ks.length ≤ 15 := by decide) : DE X E (.Dict keys values pos) (tdDisp ks ta) := by
  obtain ⟨trs, p1, d1⟩ := h.ex
  refine ⟨_, pe_disp p1 hall hl h0 h15, fun {Z I W H σ ρ Qd Ed Q} S R h sv sx => ?_⟩
  intro p hp
  have hZ := S.newZ hp
  have S1 := S.hide hp (.dK [])
  refine d1 S1 R h (fun ds W2 vs I2 H2 e2 S2 r2 hl2 h2 => ?_) (fun C fs W I' H' dx fv e S r a q => ?_)
  · obtain ⟨q1, q2, q3⟩ := S2.hidden
    refine ⟨q1, ks.zip vs |>.map fun p => ((Sum.inr p.1 : Key), p.2), by rw [List.map_map]; rfl, by rw [List.length_map, List.length_zip]; omega, ?_⟩
    have hn : (((ks.zip vs).map fun p => ((Sum.inr p.1 : Key), p.2)).map (·.1)).Nodup := by
      have e1 : ((ks.zip vs).map fun p => ((Sum.inr p.1 : Key), p.2)).map (·.1) = ks.map fun s => (Sum.inr s : Key) := by
        rw [List.map_map]
        have : ((fun p : Key × V => p.1) ∘ fun p : Str × V => ((Sum.inr p.1 : Key), p.2)) = (fun s => (Sum.inr s : Key)) ∘ Prod.fst := rfl
        rw [this, ← List.map_map, List.map_fst_zip (by rw [← r2.length]; omega)]
      rw [e1]
      exact List.pairwise_map.mpr (nd.imp fun h e => h (Sum.inr.inj e))
    rw [mergeK_nodup _ [] (by simpa using hn), List.nil_append]
    have S3 := S2.rehide (.dK ((ks.zip vs).map fun p => ((Sum.inr p.1 : Key), p.2)))
    obtain ⟨S4, e4⟩ := S3.unhide hZ
    exact sv _ W2 _ _ _ (e2.trans e4) S4 (.dk upd_same ((repK_zip r2 hl2).mono e4)) h2
  · refine sx C fs W I' H' dx fv e ⟨S.imm, S.cell, fun a o ha => ?_⟩ r a.unhide q
    have ne : a ≠ p := ne_of_none ha hZ
    exact S.fr a o (by rw [upd_ne ne]; exact ha)
theorem de_dispM {keys : List (Option Expr)} {values : List Expr} {ks : List Str} {ta : TAd} (h : DPs X E pos keys values ks ta) (nd : ks.Nodup := by decide) (hall : keys.all (·.isSome) = true := by rfl) (hl : keys.length = values.length := by rfl) (h0 : keys ≠ [] := by exact fun z => by cases z)
    (h15 : keys.length ≤ 15 := by decide) (hk : ks.length ≤ 15 := by decide) : DE X E (.Dict keys values pos) (tdDispM ks ta) := by
  obtain ⟨trs, p1, d1⟩ := h.ex
  refine ⟨_, pe_disp p1 hall hl h0 h15, fun {Z I W H σ ρ Qd Ed Q} S R h sv sx => ?_⟩
  intro p hp
  have hZ := S.newZ hp
  have S1 := S.hide hp (.dK [])
  refine d1 S1 R h (fun ds W2 vs I2 H2 e2 S2 r2 hl2 h2 => ?_) (fun C fs W I' H' dx fv e S r a q => ?_)
  · obtain ⟨q1, q2, q3⟩ := S2.hidden
    refine ⟨q1, ks.zip vs |>.map fun p => ((Sum.inr p.1 : Key), p.2), by rw [List.map_map]; rfl, by rw [List.length_map, List.length_zip]; omega, ?_⟩
    have hn : (((ks.zip vs).map fun p => ((Sum.inr p.1 : Key), p.2)).map (·.1)).Nodup := by
      have e1 : ((ks.zip vs).map fun p => ((Sum.inr p.1 : Key), p.2)).map (·.1) = ks.map fun s => (Sum.inr s : Key) := by
        rw [List.map_map]
        have : ((fun p : Key × V => p.1) ∘ fun p : Str × V => ((Sum.inr p.1 : Key), p.2)) = (fun s => (Sum.inr s : Key)) ∘ Prod.fst := rfl
        rw [this, ← List.map_map, List.map_fst_zip (by rw [← r2.length]; omega)]
      rw [e1]
      exact List.pairwise_map.mpr (nd.imp fun h e => h (Sum.inr.inj e))
    rw [mergeK_nodup _ [] (by simpa using hn), List.nil_append]
    have S3 := S2.rehide (.dK ((ks.zip vs).map fun p => ((Sum.inr p.1 : Key), p.2)))
    exact sv _ _ _ I2 _ e2 (S3.unhideM (c := .dk (ks.zip ds)) hZ ⟨_, upd_same, repK_zip r2 hl2⟩) (.ref p) (h2 p q3)
  · refine sx C fs W I' H' dx fv e ⟨S.imm, S.cell, fun a o ha => ?_⟩ r a.unhide q
    have ne : a ≠ p := ne_of_none ha hZ
    exact S.fr a o (by rw [upd_ne ne]; exact ha)
end
end DL

/-! DL7: statements, loops, a def by its body. -/
namespace DL
open PySem PySem.Spec PyProof.Rows L2

structure EndsD where
  nx : DEnv → Wd → Prop
  rt : QD
  bk : DEnv → Wd → Prop := fun _ _ => False
  ct : DEnv → Wd → Prop := fun _ _ => False
  ex : XD
abbrev TSd := EndsD → DEnv → Wd → Prop
structure SimE (K : PySem.W.Frag) (Z I : Hp) (E : XK) (Dd : EndsD) (D : Ends) : Prop where
  nx : ∀ ρ W σ I' H, Same I I' → SR K Z I' W H → EnvR K I' σ ρ → Dd.nx ρ W → D.nx σ H
  rt : SimV K Z I Dd.rt D.rt
  bk : ∀ ρ W σ I' H, Same I I' → SR K Z I' W H → EnvR K I' σ ρ → Dd.bk ρ W → D.bk σ H
  ct : ∀ ρ W σ I' H, Same I I' → SR K Z I' W H → EnvR K I' σ ρ → Dd.ct ρ W → D.ct σ H
  ex : SimX K Z I Dd.ex E
theorem SimE.mono {K : PySem.W.Frag} {Z I I' : Hp} {E : XK} {Dd : EndsD} {D : Ends} (s : SimE K Z I E Dd D) (e : Same I I') : SimE K Z I' E Dd D :=
  ⟨fun ρ W σ I2 H e2 => s.nx ρ W σ I2 H (e.trans e2), s.rt.mono e, fun ρ W σ I2 H e2 => s.bk ρ W σ I2 H (e.trans e2), fun ρ W σ I2 H e2 => s.ct ρ W σ I2 H (e.trans e2), s.ex.mono e⟩
def DenS (K : PySem.W.Frag) (E : XK) (t : TS) (td : TSd) : Prop := ∀ {Z I : Hp} {W : Wd} {H : Hp} {σ : L2.St} {ρ : DEnv} {Dd : EndsD} {D : Ends}, SR K Z I W H → EnvR K I σ ρ → td Dd ρ W → SimE K Z I E Dd D → t D σ H
structure DS (X : Cx) (E : XK) (st : Stmt) (td : TSd) : Prop where
  ex : ∃ t : TS, PS X st t ∧ DenS X.K E t td
structure DSs (X : Cx) (E : XK) (sts : List Stmt) (td : TSd) : Prop where
  ex : ∃ t : TS, PSs X sts t ∧ DenS X.K E t td
section
variable {X : Cx} {E : XK} {j : Nat} {st : Stmt} {rest : List Stmt} {t u : TSd} {pos : Pos} {e : Expr} {te : TD}
def tsNext : TSd := fun D ρ W => D.nx ρ W
@[simp ↓] theorem tsNext_u : ∀ D ρ W, tsNext D ρ W = (D.nx ρ W) := fun _ _ _ => propext Iff.rfl
def tsSeq (t u : TSd) : TSd := fun D ρ W => t { D with nx := u D } ρ W
@[simp ↓] theorem tsSeq_u (t u : TSd) : ∀ D ρ W, tsSeq t u D ρ W = (t { D with nx := u D } ρ W) := fun _ _ _ => propext Iff.rfl
theorem dss_nil : DSs X E [] tsNext := ⟨_, pss_nil, fun {Z I W H σ ρ Dd D} S R h k => k.nx ρ W σ I H (Same.refl I) S R h⟩
theorem den_seq {K : PySem.W.Frag} {t1 t2 : TS} (d1 : DenS K E t1 t) (d2 : DenS K E t2 u) : DenS K E (tSeq t1 t2) (tsSeq t u) := fun {Z I W H σ ρ Dd D} S R h k =>
  d1 (Dd := { Dd with nx := u Dd }) S R h ⟨fun ρ' W' σ' I' H' e S' R' h' => d2 S' R' h' (k.mono e), k.rt, k.bk, k.ct, k.ex⟩
theorem dss_cons (h1 : DS X E st t) (h2 : DSs X E rest u) : DSs X E (st :: rest) (tsSeq t u) := by
  obtain ⟨t1, p1, d1⟩ := h1.ex
  obtain ⟨t2, p2, d2⟩ := h2.ex
  exact ⟨_, pss_cons p1 p2, den_seq d1 d2⟩
theorem dss_one (h1 : DS X E st t) : DSs X E [st] t := by
  obtain ⟨t1, p1, d1⟩ := h1.ex
  exact ⟨_, pss_one p1, d1⟩
/-- a statement, then the rest, a word between them -/
def tsCut (t u : TSd) : TSd := fun D ρ W => ∃ M : DEnv → Wd → Prop, t { D with nx := M } ρ W ∧ ∀ ρ' W', M ρ' W' → u D ρ' W'
theorem dss_cut (h1 : DS X E st t) (h2 : DSs X E rest u) : DSs X E (st :: rest) (tsCut t u) := by
  obtain ⟨t1, p1, d1⟩ := h1.ex
  obtain ⟨t2, p2, d2⟩ := h2.ex
  refine ⟨_, pss_cons p1 p2, fun {Z I W H σ ρ Dd D} S R h k => ?_⟩
  obtain ⟨M, h1, h2⟩ := h
  exact d1 (Dd := { Dd with nx := M }) S R h1 ⟨fun ρ' W' σ' I' H' e S' R' h' => d2 S' R' (h2 _ _ h') (k.mono e), k.rt, k.bk, k.ct, k.ex⟩
def tsBreak : TSd := fun D ρ W => D.bk ρ W
@[simp ↓] theorem tsBreak_u : ∀ D ρ W, tsBreak D ρ W = (D.bk ρ W) := fun _ _ _ => propext Iff.rfl
def tsCont : TSd := fun D ρ W => D.ct ρ W
@[simp ↓] theorem tsCont_u : ∀ D ρ W, tsCont D ρ W = (D.ct ρ W) := fun _ _ _ => propext Iff.rfl
def tsNever : TSd := fun _ _ _ => False
@[simp ↓] theorem tsNever_u : ∀ u_0 u_1 u_2, tsNever u_0 u_1 u_2 = (False) := fun _ _ _ => propext Iff.rfl
theorem ds_pass : DS X E (.Pass pos) tsNext := ⟨_, ps_pass, fun {Z I W H σ ρ Dd D} S R h k => k.nx ρ W σ I H (Same.refl I) S R h⟩
theorem ds_break : DS X E (.Break pos) tsBreak := ⟨_, ps_break, fun {Z I W H σ ρ Dd D} S R h k => k.bk ρ W σ I H (Same.refl I) S R h⟩
theorem ds_continue : DS X E (.Continue pos) tsCont := ⟨_, ps_continue, fun {Z I W H σ ρ Dd D} S R h k => k.ct ρ W σ I H (Same.refl I) S R h⟩
theorem ds_never : DS X E st tsNever := ⟨_, ps_never, fun {Z I W H σ ρ Dd D} S R h k => h.elim⟩
def tsDrop (te : TD) : TSd := fun D ρ W => te ρ W (fun _ W1 => D.nx ρ W1) D.ex
@[simp ↓] theorem tsDrop_u (te : TD) : ∀ D ρ W, tsDrop te D ρ W = (te ρ W (fun _ W1 => D.nx ρ W1) D.ex) := fun _ _ _ => propext Iff.rfl
theorem ds_expr (h : DE X E e te) (hs : swapsWith e none pos.line X.env = pure false := by rfl) : DS X E (.Expr e pos) (tsDrop te) := by
  obtain ⟨t1, p1, d1⟩ := h.ex
  exact ⟨_, ps_expr p1 hs, fun {Z I W H σ ρ Dd D} S R h k => d1 S R h (fun d W1 v I1 H1 e1 S1 r1 h1 => k.nx ρ W1 σ I1 H1 e1 S1 (R.mono e1) h1) k.ex⟩
def tsRet (te : TD) : TSd := fun D ρ W => te ρ W D.rt D.ex
@[simp ↓] theorem tsRet_u (te : TD) : ∀ D ρ W, tsRet te D ρ W = (te ρ W D.rt D.ex) := fun _ _ _ => propext Iff.rfl
theorem ds_ret (h : DE X E e te) : DS X E (.Return (some e) pos) (tsRet te) := by
  obtain ⟨t1, p1, d1⟩ := h.ex
  exact ⟨_, ps_ret p1, fun {Z I W H σ ρ Dd D} S R h k => d1 S R h k.rt k.ex⟩
def tsRetN : TSd := fun D _ W => D.rt .non W
@[simp ↓] theorem tsRetN_u : ∀ D u_0 W, tsRetN D u_0 W = (D.rt .non W) := fun _ _ _ => propext Iff.rfl
theorem ds_retN : DS X E (.Return none pos) tsRetN := ⟨_, ps_retN, fun {Z I W H σ ρ Dd D} S R h k => k.rt .non W .non I H (Same.refl I) S .non h⟩
def tsIf (c : TTd) (t u : TSd) : TSd := fun D ρ W => c ρ W (fun b W1 => if b = true then t D ρ W1 else u D ρ W1) D.ex
@[simp ↓] theorem tsIf_u (c : TTd) (t u : TSd) : ∀ D ρ W, tsIf c t u D ρ W = (c ρ W (fun b W1 => if b = true then t D ρ W1 else u D ρ W1) D.ex) := fun _ _ _ => propext Iff.rfl
theorem ds_if {c : Expr} {a b : List Stmt} {tc : TTd} (hc : DT X E c tc) (ha : DSs X E a t) (hb : DSs X E b u) : DS X E (.If c a b pos) (tsIf tc t u) := by
  obtain ⟨t0, p0, d0⟩ := hc.ex
  obtain ⟨t1, p1, d1⟩ := ha.ex
  obtain ⟨t2, p2, d2⟩ := hb.ex
  refine ⟨_, ps_if p0 p1 p2, fun {Z I W H σ ρ Dd D} S R h k => d0 S R h (fun b W1 I1 H1 e1 S1 h1 => ?_) k.ex⟩
  cases b with
  | true =>
    simp only [if_true] at h1 ⊢
    exact d1 S1 (R.mono e1) h1 (k.mono e1)
  | false =>
    simp only [Bool.false_eq_true, if_false] at h1 ⊢
    exact d2 S1 (R.mono e1) h1 (k.mono e1)

/-! ### stores -/
def tsAsg (te : TD) (g : Tg) : TSd := fun D ρ W => te ρ W (fun d W1 => asgT g d ρ W1 D.nx) D.ex
@[simp ↓] theorem tsAsg_u (te : TD) (g : Tg) : ∀ D ρ W, tsAsg te g D ρ W = (te ρ W (fun d W1 => asgT g d ρ W1 D.nx) D.ex) := fun _ _ _ => propext Iff.rfl
theorem den_asg {K : PySem.W.Frag} {t1 : TE} {g : Tg} (d1 : Den K E t1 te) : DenS K E (tAsg t1 (gOf K g)) (tsAsg te g) := fun {Z I W H σ ρ Dd D} S R h k =>
  d1 S R h (fun d W1 v I1 H1 e1 S1 r1 h1 => g_sim S1 r1 (R.mono e1) h1 fun σ' ρ' R' h' _ => k.nx ρ' W1 σ' I1 H1 e1 S1 R' h') k.ex
theorem ds_set (i : Nat) {x : Str} {pos' : Pos} (c : Ct X E j) (he : DE X E e te) (hi : X.N[i]? = some x := by rfl) (hx : Loc X.env.scope x := by first | exact Or.inl rfl | exact Or.inr rfl) (hs : swapsWith e (some (.Name x pos')) pos.line X.env = pure false := by rfl)
    (hf : X.fn x = true ∨ X.env.scope.names.lookup x = some .local := by first | exact .inl rfl | exact .inr rfl | assumption) : DS X E (.Assign [.Name x pos'] e pos) (tsAsg te (.name i)) := by
  obtain ⟨t1, p1, d1⟩ := he.ex
  exact ⟨_, ps_set c.nd hi hx p1 hs hf, den_asg (g := .name i) d1⟩
theorem ds_asg {tg : Expr} {g : Tg} (he : DE X E e te) (hg : PGt X tg g) (hs : swapsWithSole [tg] e pos.line X.env = pure false := by rfl) (hw : swappedStores [tg] e X.env = pure none := by rfl)
    (h1 : (assignEach [tg] X.env).map (·.2) = [assign tg X.env] := by rfl) : DS X E (.Assign [tg] e pos) (tsAsg te g) := by
  obtain ⟨t1, p1, d1⟩ := he.ex
  exact ⟨_, ps_asg p1 hg.pg hs hw h1, den_asg (g := g) d1⟩
/-- name = [elt for ..] -/
theorem ds_setLc (i : Nat) {y : Str} {py : Pos} {elt tg iter : Expr} {ifs : List Expr} {scope : Scope} {own : List (Str × Nat)} {pos spos : Pos} {ti : TId} {tgt : Tg} {tt : TTd} {te : TD}
    (c : Ct X E j) (hi : DI X E tg iter ti) (ok : blkC X.N X.env.scope scope own = true)
    (hg : ∀ (s : Shared) (H : Hp) (C : Addr) (cl : List (Str × Addr)) (fp : List Addr), PGt (X.blk s H scope (compEnvC scope cl C X.env) fp) tg tgt)
    (ht : ∀ (s : Shared) (H : Hp) (C : Addr) (cl : List (Str × Addr)) (fp : List Addr), DTs (X.blk s H scope (compEnvC scope cl C X.env) fp) L2.E0 ifs tt)
    (he : ∀ (s : Shared) (H : Hp) (C : Addr) (cl : List (Str × Addr)) (fp : List Addr), DE (X.blk s H scope (compEnvC scope cl C X.env) fp) L2.E0 elt te)
    (hy : X.N[i]? = some y := by rfl) (hyl : X.env.scope.names.lookup y = some .local := by rfl) (hsw : swapsWith (.ListComp elt [⟨tg, iter, ifs, 0⟩] scope pos) (some (.Name y py)) spos.line X.env = pure true := by exact sw_true rfl rfl rfl (by decide +kernel))
    (hv : ∀ i ∈ tgt.slots, i ∈ own.map (·.2) := by decide) (hs : ∀ x, foldedSetIterable iter X.env x = pure x := by intro _; rfl) :
    DS X E (.Assign [.Name y py] (.ListComp elt [⟨tg, iter, ifs, 0⟩] scope pos) spos) (tsAsg (tdLc ti tgt tt te (own.map (·.2))) (.name i)) := by
  obtain ⟨wi, p1, d1⟩ := hi.ex
  refine ⟨_, ps_setLc (g := gOf X.K tgt) (tt := ttOf X.K L2.E0 tt) (te := tOf X.K L2.E0 te) c.calm c.nd hy hyl hsw p1 (blkOk_by ok) (fun s H C cl fp => (hg s H C cl fp).pg) (fun s H C cl fp => (ht s H C cl fp).pts) (fun s H C cl fp => (he s H C cl fp).pe) hs, ?_⟩
  refine den_asg (g := .name i) fun {Z I W H σ ρ Qd Ed Q} S R h sv sx => ?_
  refine den_lc hv d1 S R h (fun D acc vacc I' W' H' e hZ S' ra q => ?_) sx
  obtain ⟨S2, e2⟩ := S'.unhide hZ
  exact sv _ W' _ _ H' (e.trans e2) S2 (.lst upd_same (ra.mono e2)) q
/-- o[i] = e, o a list that changes, or a dict with text keys -/
def putA (kvs : List (Str × D)) (k : Str) (d : D) : List (Str × D) := putG k d kvs
def dSet : D → D → D → Wd → (Wd → Prop) → Prop := fun o i d W Q => match o, i with
  | .ref a, .int n => match W a with
    | some (.lst xs) => (0 ≤ n ∧ n < xs.length) ∧ Q (updW W a (.lst (xs.set n.toNat d)))
    | _ => False
  | _, _ => False
@[simp ↓] theorem dSet_u : ∀ o i d W Q, dSet o i d W Q = (match o, i with
  | .ref a, .int n => match W a with
    | some (.lst xs) => (0 ≤ n ∧ n < xs.length) ∧ Q (updW W a (.lst (xs.set n.toNat d)))
    | _ => False
  | _, _ => False) := fun _ _ _ _ _ => propext Iff.rfl
def tsSub (to_ ti te : TD) : TSd := fun D ρ W => te ρ W (fun d W1 => to_ ρ W1 (fun o W2 => ti ρ W2 (fun i W3 => dSet o i d W3 (D.nx ρ)) D.ex) D.ex) D.ex
@[simp ↓] theorem tsSub_u (to_ ti te : TD) : ∀ D ρ W, tsSub to_ ti te D ρ W = (te ρ W (fun d W1 => to_ ρ W1 (fun o W2 => ti ρ W2 (fun i W3 => dSet o i d W3 (D.nx ρ)) D.ex) D.ex) D.ex) := fun _ _ _ => propext Iff.rfl
theorem ds_sub {o i : Expr} {to_ ti : TD} {tpos : Pos} (ho : DE X E o to_) (hi : DE X E i ti) (he : DE X E e te) (hs : swapsWithSole [.Subscript o i tpos] e pos.line X.env = pure false := by rfl) (hw : swappedStores [.Subscript o i tpos] e X.env = pure none := by rfl)
    (h1 : (assignEach [.Subscript o i tpos] X.env).map (·.2) = [assign (.Subscript o i tpos) X.env] := by rfl)
    (ha : ∀ v, assign (.Subscript o i tpos) X.env v = (do
      let ov ← holding [v] (eval o X.env)
      let iv ← holding [v, ov] (eval i X.env)
      standAt tpos
      holding [v, ov, iv] (setItem ov iv v)
      release [v, ov, iv] []) := by intro _; rfl) : DS X E (.Assign [.Subscript o i tpos] e pos) (tsSub to_ ti te) := by
  obtain ⟨t0, p0, d0⟩ := ho.ex
  obtain ⟨t1, p1, d1⟩ := hi.ex
  obtain ⟨t2, p2, d2⟩ := he.ex
  refine ⟨_, ps_asg p2 (pg_sub p0 p1 set_list ha) hs hw h1, fun {Z I W H σ ρ Dd D} S R h k => ?_⟩
  refine d2 S R h (fun d W1 v I1 H1 e1 S1 r1 h1 => ?_) k.ex
  refine d0 S1 (R.mono e1) h1 (fun o W2 ov I2 H2 e2 S2 r2 h2 => ?_) (k.ex.mono e1)
  have e12 := e1.trans e2
  refine d1 S2 (R.mono e12) h2 (fun i W3 iv I3 H3 e3 S3 r3 h3 => ?_) (k.ex.mono e12)
  have e13 := e12.trans e3
  unfold dSet at h3
  split at h3
  · rename_i a n
    cases r3
    have r2' := r2.mono e3
    cases r2'
    split at h3
    · rename_i xs hw
      obtain ⟨⟨h0, hl⟩, q⟩ := h3
      obtain ⟨hI, vs, hv, rv⟩ := S3.cell a _ hw
      have hlen := rv.length
      refine ⟨a, vs, n, n.toNat, rfl, rfl, hv, ?_, ?_⟩
      · unfold ixN; rw [if_pos h0, if_pos (by omega)]
      · exact k.nx ρ _ σ I3 _ e13 (S3.put hI (S3.noZ hw) (c := .lst (xs.set n.toNat d)) ⟨_, upd_same, rv.set (r1.mono (e2.trans e3)) _⟩) (R.mono e13) q
    · exact h3.elim
  · exact h3.elim
/-- o.f = e, o an instance that changes -/
def tsFld (C : Addr) (f : Str) (to_ te : TD) : TSd := fun D ρ W => te ρ W (fun d W1 => to_ ρ W1 (fun o W2 => match o with
  | .ref a => match W2 a with
    | some (.ins C' fs) => C' = C ∧ fs.length < 900 ∧ D.nx ρ (updW W2 a (.ins C (putG f d fs)))
    | _ => False
  | _ => False) D.ex) D.ex
@[simp ↓] theorem tsFld_u (C : Addr) (f : Str) (to_ te : TD) : ∀ D ρ W, tsFld C f to_ te D ρ W = (te ρ W (fun d W1 => to_ ρ W1 (fun o W2 => match o with
  | .ref a => match W2 a with
    | some (.ins C' fs) => C' = C ∧ fs.length < 900 ∧ D.nx ρ (updW W2 a (.ins C (putG f d fs)))
    | _ => False
  | _ => False) D.ex) D.ex) := fun _ _ _ => propext Iff.rfl
theorem ds_fld {C : Addr} {f : Str} {o : Expr} {to_ : TD} {pos' : Pos} (hf : FldOk X.K C f) (ho : DE X E o to_) (he : DE X E e te) (hs : swapsWith e (some (.Attribute o f pos')) pos.line X.env = pure false := by rfl) : DS X E (.Assign [.Attribute o f pos'] e pos) (tsFld C f to_ te) := by
  obtain ⟨t0, p0, d0⟩ := ho.ex
  obtain ⟨t2, p2, d2⟩ := he.ex
  refine ⟨_, ps_fld p0 p2 hs, fun {Z I W H σ ρ Dd D} S R h k => ?_⟩
  refine d2 S R h (fun d W1 v I1 H1 e1 S1 r1 h1 => ?_) k.ex
  refine d0 S1 (R.mono e1) h1 (fun o W2 ov I2 H2 e2 S2 r2 h2 => ?_) (k.ex.mono e1)
  cases o with
  | ref a =>
    cases r2
    cases hw : W2 a with
    | none => simp only [hw] at h2
    | some cc =>
      cases cc with
      | ins C' fs =>
        simp only [hw] at h2
        obtain ⟨rfl, hl, q⟩ := h2
        obtain ⟨hI, dx, fv, hv, rv⟩ := S2.cell a _ hw
        refine ⟨a, _, dx, fv, rfl, hv, hf.cl, hf.na, by rw [← rv.length]; omega, ?_⟩
        exact k.nx ρ _ σ I2 _ (e1.trans e2) (S2.put hI (S2.noZ hw) (c := .ins _ (putG f d fs)) ⟨dx, _, upd_same, rv.put (r1.mono e2)⟩) (R.mono (e1.trans e2)) q
      | lst xs => simp only [hw] at h2
      | dk kvs => simp only [hw] at h2
      | xd kvs => simp only [hw] at h2
      | dn hs kvs => simp only [hw] at h2
      | tab q => simp only [hw] at h2
      | fn o c q => simp only [hw] at h2
  | _ => exact h2.elim

/-! ### loops -/
def forL (tg : Tg) (tb : TSd) (Dd : EndsD) (G : Wd → Prop) : List D → DEnv → Wd → Prop
  | [], ρ, W => G W ∧ Dd.nx ρ W
  | x :: xs, ρ, W => G W ∧ asgT tg x ρ W fun ρ' W' => tb { Dd with nx := forL tg tb Dd G xs, ct := forL tg tb Dd G xs, bk := Dd.nx } ρ' W'
def tsFor (ti : TId) (tg : Tg) (tb : TSd) : TSd := fun D ρ W => ti ρ W (fun xs G W1 => forL tg tb D G xs ρ W1) D.ex
@[simp ↓] theorem tsFor_u (ti : TId) (tg : Tg) (tb : TSd) : ∀ D ρ W, tsFor ti tg tb D ρ W = (ti ρ W (fun xs G W1 => forL tg tb D G xs ρ W1) D.ex) := fun _ _ _ => propext Iff.rfl
theorem ds_for {iter tge : Expr} {body : List Stmt} {ti : TId} {tg : Tg} {tb : TSd} (c : Ct X E j) (hi : DI X E tge iter ti) (hg : PGt X tge tg) (hb : DSs X E body tb) (hs : ∀ x, foldedSetIterable iter X.env x = pure x := by intro _; rfl) :
    DS X E (.For tge iter body [] pos) (tsFor ti tg tb) := by
  obtain ⟨wi, p1, d1⟩ := hi.ex
  obtain ⟨t2, p2, d2⟩ := hb.ex
  refine ⟨_, ps_for c.own c.calm p1 hg.pg p2 hs, fun {Z I W H σ ρ Dd D} S R h k => ?_⟩
  refine d1 S R h (fun xs G W1 I1 H1 J e1 S1 it h1 => ?_) k.ex
  refine ⟨fun i m σ' H' => m = xs.length - i ∧ i ≤ xs.length ∧ ∃ I' W' ρ', Same I1 I' ∧ SR X.K Z I' W' H' ∧ EnvR X.K I' σ' ρ' ∧ forL tg tb Dd G (xs.drop i) ρ' W',
    ⟨xs.length, by simp, Nat.zero_le _, I1, W1, ρ, Same.refl _, S1, R.mono e1, h1⟩, ?_⟩
  rintro i m σ' H' ⟨rfl, hi, I', W', ρ', e2, S2, R2, hl⟩
  by_cases hlt : i < xs.length
  · have ed : xs.drop i = xs[i] :: xs.drop (i + 1) := List.drop_eq_getElem_cons hlt
    rw [ed] at hl
    obtain ⟨hG, hl⟩ := hl
    refine .inr ⟨it.go i _ I' W' H' hlt e2 S2 hG, fun σ3 H3 => ∃ I' W' ρ', Same I1 I' ∧ SR X.K Z I' W' H3 ∧ EnvR X.K I' σ3 ρ' ∧ forL tg tb Dd G (xs.drop (i + 1)) ρ' W', fun σ3 H3 q => ⟨xs.length - (i + 1), by omega, rfl, hlt, q⟩, fun x H2 y => ?_⟩
    obtain ⟨I2, e3, S3, rx⟩ := it.yld i xs[i] _ I' W' H' x H2 (by simp) e2 S2 hG y
    have e13 := e1.trans (e2.trans e3)
    refine g_sim S3 rx (R2.mono e3) hl fun σ4 ρ4 R4 h4 _ => ?_
    refine d2 S3 R4 h4 ⟨fun ρ5 W5 σ5 I5 H5 e5 S5 R5 h5 => ⟨I5, W5, ρ5, e2.trans (e3.trans e5), S5, R5, h5⟩, (k.rt).mono e13, fun ρ5 W5 σ5 I5 H5 e5 S5 R5 h5 => k.nx ρ5 W5 σ5 I5 H5 (e13.trans e5) S5 R5 h5,
      fun ρ5 W5 σ5 I5 H5 e5 S5 R5 h5 => ⟨I5, W5, ρ5, e2.trans (e3.trans e5), S5, R5, h5⟩, k.ex.mono e13⟩
  · have e : i = xs.length := by omega
    subst e
    rw [List.drop_length] at hl
    obtain ⟨hG, hl⟩ := hl
    exact .inl ⟨it.stop _ I' W' H' e2 S2 hG, k.nx ρ' W' σ' I' H' (e1.trans e2) S2 R2 hl⟩
def whL (tt : TTd) (tb : TSd) (Dd : EndsD) : Nat → DEnv → Wd → Prop
  | 0, _, _ => False
  | n + 1, ρ, W => tt ρ W (fun b W1 => if b = true then tb { Dd with nx := whL tt tb Dd n, ct := whL tt tb Dd n, bk := Dd.nx } ρ W1 else Dd.nx ρ W1) Dd.ex
def tsWhile (tt : TTd) (tb : TSd) : TSd := fun D ρ W => ∃ n, whL tt tb D n ρ W
@[simp ↓] theorem tsWhile_u (tt : TTd) (tb : TSd) : ∀ D ρ W, tsWhile tt tb D ρ W = (∃ n, whL tt tb D n ρ W) := fun _ _ _ => propext Iff.rfl
theorem ds_while {test : Expr} {body : List Stmt} {tt : TTd} {tb : TSd} (c : Ct X E j) (ht : DT X E test tt) (hb : DSs X E body tb) : DS X E (.While test body [] pos) (tsWhile tt tb) := by
  obtain ⟨t1, p1, d1⟩ := ht.ex
  obtain ⟨t2, p2, d2⟩ := hb.ex
  refine ⟨_, ps_while c.own p1 p2, fun {Z I W H σ ρ Dd D} S R h k => ?_⟩
  obtain ⟨n, h⟩ := h
  refine ⟨fun m σ' H' => ∃ I' W' ρ', Same I I' ∧ SR X.K Z I' W' H' ∧ EnvR X.K I' σ' ρ' ∧ whL tt tb Dd m ρ' W', ⟨n, I, W, ρ, Same.refl _, S, R, h⟩, ?_⟩
  rintro m σ' H' ⟨I', W', ρ', e1, S1, R1, h1⟩
  cases m with
  | zero => exact h1.elim
  | succ m =>
    refine d1 S1 R1 h1 (fun b W2 I2 H2 e2 S2 h2 => ?_) (k.ex.mono e1)
    have e12 := e1.trans e2
    cases b with
    | true =>
      simp only [if_true] at h2 ⊢
      refine ⟨fun σ3 H3 => ∃ I' W' ρ', Same I I' ∧ SR X.K Z I' W' H3 ∧ EnvR X.K I' σ3 ρ' ∧ whL tt tb Dd m ρ' W', fun σ3 H3 q => ⟨m, Nat.lt_succ_self m, q⟩, ?_⟩
      exact d2 S2 (R1.mono e2) h2 ⟨fun ρ5 W5 σ5 I5 H5 e5 S5 R5 h5 => ⟨I5, W5, ρ5, e12.trans e5, S5, R5, h5⟩, k.rt.mono e12, fun ρ5 W5 σ5 I5 H5 e5 S5 R5 h5 => k.nx ρ5 W5 σ5 I5 H5 (e12.trans e5) S5 R5 h5,
        fun ρ5 W5 σ5 I5 H5 e5 S5 R5 h5 => ⟨I5, W5, ρ5, e12.trans e5, S5, R5, h5⟩, k.ex.mono e12⟩
    | false =>
      simp only [Bool.false_eq_true, if_false] at h2 ⊢
      exact k.nx ρ' W2 σ' I2 H2 e12 S2 (R1.mono e2) h2
end

/-! ### a def by its body -/
section
variable {P : Program} {w : World} {K : PySem.W.Frag} {mg : Str → Option Value} {base : Heap}
theorem ct_of {N : List Str} {qual : Str} {scope : Scope} {f : Addr} {cdv : Value} {A : Around} {outer : List Env} {s : Shared} {H : Hp} {E : XK} {k : Nat} (nd : N.Nodup) (hr : Room k (A.deeper (envOfC qual scope s.heap.objs.size f cdv))) :
    Ct (cxOf (L2.CX P w) P w K mg base N qual scope f cdv A outer s H E) E k :=
  ⟨rfl, passes_of rfl, passes_call (takes_of rfl rfl rfl rfl) (fun _ _ _ _ h => h), hr, nd⟩
theorem fn_d {x qual : Str} {st : Stmt} {f : Addr} {fd : FuncData} {N ps : List Str} {k : Nat} {spd : SpD} (F : Fun K x qual st f fd) (S : FnScope N ps (defScope st)) (len : ∀ ds W Q E, spd ds W Q E → ds.length = ps.length)
    (hbody : ∀ (cdv : Value) (A : Around) (outer : List Env) (s : Shared) (H : Hp) (E : XK), Ct (cxOf (L2.CX P w) P w K mg base N qual (defScope st) f cdv A outer s H E) E k →
      ∃ td, DSs (cxOf (L2.CX P w) P w K mg base N qual (defScope st) f cdv A outer s H E) E (defBody st) td ∧ ∀ ds W Qd Ed, spd ds W Qd Ed → td { nx := fun _ W' => Qd .non W', rt := Qd, ex := Ed } (startS N ds) W) :
    FnOk P w K mg base (L2.CX P w) (k + 1) f fd ps (liftS K spd) := by
  refine F.okX S (fun vs H Q E h => ?_) (fun cdv A outer s H vs Q E hr h => ?_)
  · obtain ⟨Z, I, W, ds, Qd, Ed, _, r, h, _⟩ := h
    rw [← r.length]; exact len _ _ _ _ h
  · obtain ⟨Z, I, W, ds, Qd, Ed, S1, r, h, sv, sx⟩ := h
    obtain ⟨td, hd, hq⟩ := hbody cdv A outer s H E (ct_of S.nd hr)
    obtain ⟨t, p, d⟩ := hd.ex
    have hl : vs.length ≤ N.length := by
      have h1 := len _ _ _ _ h
      have h2 := congrArg List.length S.pre
      rw [List.length_take] at h2
      rw [← r.length]; omega
    exact ⟨t, p, d S1 (EnvR.start r hl) (hq ds W Qd Ed h) ⟨fun ρ W' σ I' H' e S' R' q => sv _ W' _ I' H' e S' .non q, sv, fun _ _ _ _ _ _ _ _ q => q.elim, fun _ _ _ _ _ _ _ _ q => q.elim, sx⟩⟩
theorem cd_of {x : Str} {st : Stmt} {f : Addr} {fd : FuncData} {ps : List Str} {k : Nat} {spd : SpD} (F : Fun K x x st f fd) (hm : mg x = some (.ref f)) (b : Binds K fd ps []) (h : FnOk P w K mg base (L2.CX P w) k f fd ps (liftS K spd)) : Cd P w K mg base k x spd := ⟨f, fd, ps, h, hm, F.kp, b⟩
end
end DL

/-! DL8: chains of three, methods, isinstance, reversed; the classes' addresses. -/
namespace DL
open PySem PySem.Spec PyProof.Rows L2

/-- where the program's classes stand -/
structure CC where
  st : Addr
  se : Addr
  badStore : Addr
  badStep : Addr
  barred : Addr
  badText : Addr
  ais : Addr
  hs : NestedKey → Int
/-- the classes of which exceptions are raised -/
def CC.known (C : CC) (c : Addr) : Prop := c = C.badStore ∨ c = C.badStep ∨ c = C.barred ∨ c = C.badText
/-- they are apart -/
structure CC.Ok (C : CC) : Prop where
  n1 : C.badStore ≠ C.badStep
  n2 : C.badStore ≠ C.barred
  n3 : C.badStore ≠ C.badText
  n4 : C.badStep ≠ C.barred
  n5 : C.badStep ≠ C.badText
  n6 : C.barred ≠ C.badText

theorem Ct.u65 {X : Cx} {E : XK} {j : Nat} (c : Ct X E j) : X.A.units + 65 < cLine := by have := c.room.un; omega
theorem bt_len : bootBuiltins "len" = some (.builtin "len") := by decide +kernel
theorem bt_int : bootBuiltins "int" = some (.type "int") := by decide +kernel
theorem bt_str : bootBuiltins "str" = some (.type "str") := by decide +kernel
theorem bt_list : bootBuiltins "list" = some (.type "list") := by decide +kernel
theorem bt_tuple : bootBuiltins "tuple" = some (.type "tuple") := by decide +kernel
theorem bt_max : bootBuiltins "max" = some (.builtin "max") := by decide +kernel
theorem bt_min : bootBuiltins "min" = some (.builtin "min") := by decide +kernel
theorem bt_sum : bootBuiltins "sum" = some (.builtin "sum") := by decide +kernel
theorem bt_sorted : bootBuiltins "sorted" = some (.builtin "sorted") := by decide +kernel
theorem bt_abs : bootBuiltins "abs" = some (.builtin "abs") := by decide +kernel
theorem bt_isinstance : bootBuiltins "isinstance" = some (.builtin "isinstance") := by decide +kernel
theorem bt_bool : bootBuiltins "bool" = some (.type "bool") := by decide +kernel
theorem bt_dict : bootBuiltins "dict" = some (.type "dict") := by decide +kernel

section
variable {X : Cx} {E : XK} {j : Nat} {a b c d : Expr} {ta tb tc td : TD} {pos : Pos}
def tChain3 (r r' r'' : R2) (ta tb tc td : TE) : TE := fun σ H Q => ta σ H fun x H1 => tb σ H1 fun y H2 => r x y H2 fun z H3 => ∃ k, z = .bl k ∧
  (if k = true then tc σ H3 fun w H4 => r' y w H4 fun z' H5 => ∃ k', z' = .bl k' ∧ (if k' = true then td σ H5 fun w' H6 => r'' w w' H6 Q else Q (.bl false) H5) else Q (.bl false) H3)
theorem pe_chain3 {op op' op'' : CmpOp} {r r' r'' : R2} {ta tb tc td : TE} (ho : OpR X (compareOp op) r) (ho' : OpR X (compareOp op') r') (ho'' : OpR X (compareOp op'') r'') (ha : PE X a ta) (hb : PE X b tb) (hc : PE X c tc) (hd : PE X d td)
    (hm : lastMarks [op, op', op''] [b, c, d] = false) : PE X (.Compare a [op, op', op''] [b, c, d] pos) (tChain3 r r' r'' ta tb tc td) := by
  refine ⟨fun pins s σ H Q I h => ?_⟩
  refine Compare_chain (thn (ha.run pins s σ H _ I h) fun v s1 ⟨x, H1, I1, r1, q1⟩ => chain_link (thn (hb.run pins s1 σ H1 _ I1 q1) fun u s2 ⟨y, H2, I2, r2, q2⟩ =>
    thn (ho pins s2 σ H2 x y v u _ I2 r1 r2 q2) fun d s3 ⟨z, H3, I3, r3, k, e, q3⟩ => ?_)) hm
  subst e
  cases r3
  refine wpAny_truthy_bool ?_
  cases k with
  | false => exact ite_ff ⟨.bl false, H3, I3, rfl, q3⟩
  | true =>
    refine ite_tt (chain_link (thn (hc.run pins s3 σ H3 _ I3 q3) fun w' s4 ⟨z', H4, I4, r4, q4⟩ => thn (ho' pins s4 σ H4 y z' u w' _ I4 r2 r4 q4) fun d' s5 ⟨z2, H5, I5, r5, k2, e2, q5⟩ => ?_))
    subst e2
    cases r5
    refine wpAny_truthy_bool ?_
    cases k2 with
    | false => exact ite_ff ⟨.bl false, H5, I5, rfl, q5⟩
    | true => exact ite_tt (chain_last (thn (hd.run pins s5 σ H5 _ I5 q5) fun w6 s6 ⟨z6, H6, I6, r6, q6⟩ => ho'' pins s6 σ H6 z' z6 w' w6 Q I6 r4 r6 q6))
theorem pt_of_pe {e : Expr} {t : TE} (h : PE X e t) (he : ∀ whole, isTrue e X.env whole = (do let v ← whole; standAt e.pos; holding [v] (truthy v))) : PT X e (tTest t) := pt_val h he
def tdChain3 (r r' r'' : R2d) (ta tb tc td : TD) : TD := fun ρ W Q E => ta ρ W (fun x W1 => tb ρ W1 (fun y W2 => r x y W2 (fun z W3 => match z with
  | .bl k => if k = true then tc ρ W3 (fun w W4 => r' y w W4 (fun z' W5 => match z' with
      | .bl k' => if k' = true then td ρ W5 (fun w' W6 => r'' w w' W6 Q) E else Q (.bl false) W5
      | _ => False)) E else Q (.bl false) W3
  | _ => False)) E) E
@[simp ↓] theorem tdChain3_u (r r' r'' : R2d) (ta tb tc td : TD) : ∀ ρ W Q E, tdChain3 r r' r'' ta tb tc td ρ W Q E = (ta ρ W (fun x W1 => tb ρ W1 (fun y W2 => r x y W2 (fun z W3 => match z with
  | .bl k => if k = true then tc ρ W3 (fun w W4 => r' y w W4 (fun z' W5 => match z' with
      | .bl k' => if k' = true then td ρ W5 (fun w' W6 => r'' w w' W6 Q) E else Q (.bl false) W5
      | _ => False)) E else Q (.bl false) W3
  | _ => False)) E) E) := fun _ _ _ _ => propext Iff.rfl
theorem den_chain3 {K : PySem.W.Frag} {t1 t2 t3 t4 : TE} {rr rr' rr'' : R2} {r r' r'' : R2d} (d1 : Den K E t1 ta) (d2 : Den K E t2 tb) (d3 : Den K E t3 tc) (d4 : Den K E t4 td)
    (dr : ∀ {Z I : Hp} {W : Wd} {H : Hp} {x y : D} {v u : V} {Qd : QD} {Q : VK}, SR K Z I W H → Rep K I x v → Rep K I y u → r x y W Qd → SimV K Z I Qd Q → rr v u H Q)
    (dr' : ∀ {Z I : Hp} {W : Wd} {H : Hp} {x y : D} {v u : V} {Qd : QD} {Q : VK}, SR K Z I W H → Rep K I x v → Rep K I y u → r' x y W Qd → SimV K Z I Qd Q → rr' v u H Q)
    (dr'' : ∀ {Z I : Hp} {W : Wd} {H : Hp} {x y : D} {v u : V} {Qd : QD} {Q : VK}, SR K Z I W H → Rep K I x v → Rep K I y u → r'' x y W Qd → SimV K Z I Qd Q → rr'' v u H Q) : Den K E (tChain3 rr rr' rr'' t1 t2 t3 t4) (tdChain3 r r' r'' ta tb tc td) := fun {Z I W H σ ρ Qd Ed Q} S R h sv sx => by
  refine d1 S R h (fun x W1 v I1 H1 e1 S1 r1 h1 => ?_) sx
  refine d2 S1 (R.mono e1) h1 (fun y W2 u I2 H2 e2 S2 r2 h2 => ?_) (sx.mono e1)
  refine dr S2 (r1.mono e2) r2 h2 (fun z W3 w I3 H3 e3 S3 r3 h3 => ?_)
  have e13 := e1.trans (e2.trans e3)
  cases z with
  | bl k =>
    cases r3
    refine ⟨k, rfl, ?_⟩
    cases k with
    | true =>
      simp only [if_true] at h3 ⊢
      refine d3 S3 (R.mono e13) h3 (fun w W4 w' I4 H4 e4 S4 r4 h4 => ?_) (sx.mono e13)
      refine dr' S4 (r2.mono (e3.trans e4)) r4 h4 (fun z5 W5 v5 I5 H5 e5 S5 r5 h5 => ?_)
      have e15 := e13.trans (e4.trans e5)
      cases z5 with
      | bl k' =>
        cases r5
        refine ⟨k', rfl, ?_⟩
        cases k' with
        | true =>
          simp only [if_true] at h5 ⊢
          refine d4 S5 (R.mono e15) h5 (fun w6 W6 v6 I6 H6 e6 S6 r6 h6 => ?_) (sx.mono e15)
          exact dr'' S6 (r4.mono (e5.trans e6)) r6 h6 (sv.mono (e15.trans e6))
        | false =>
          simp only [Bool.false_eq_true, if_false] at h5 ⊢
          exact sv _ W5 _ I5 H5 e15 S5 (.bl false) h5
      | _ => exact h5.elim
    | false =>
      simp only [Bool.false_eq_true, if_false] at h3 ⊢
      exact sv _ W3 _ I3 H3 e13 S3 (.bl false) h3
  | _ => exact h3.elim
theorem de_chain3 {op op' op'' : CmpOp} {r r' r'' : R2d} (ho : OpD X (compareOp op) r) (ho' : OpD X (compareOp op') r') (ho'' : OpD X (compareOp op'') r'') (ha : DE X E a ta) (hb : DE X E b tb) (hc : DE X E c tc) (hd : DE X E d td)
    (hm : lastMarks [op, op', op''] [b, c, d] = false := by with_unfolding_all rfl) : DE X E (.Compare a [op, op', op''] [b, c, d] pos) (tdChain3 r r' r'' ta tb tc td) := by
  obtain ⟨rr, pr, dr⟩ := ho.ex
  obtain ⟨rr', pr', dr'⟩ := ho'.ex
  obtain ⟨rr'', pr'', dr''⟩ := ho''.ex
  obtain ⟨t1, p1, d1⟩ := ha.ex
  obtain ⟨t2, p2, d2⟩ := hb.ex
  obtain ⟨t3, p3, d3⟩ := hc.ex
  obtain ⟨t4, p4, d4⟩ := hd.ex
  exact ⟨_, pe_chain3 pr pr' pr'' p1 p2 p3 p4 hm, den_chain3 d1 d2 d3 d4 dr dr' dr''⟩

/-! ### methods of lists that change -/
def ty_list (x : D) (W : Wd) : Prop := match x with
  | .ref a => match W a with
    | some (.lst _) => True
    | _ => False
  | .lst _ => True
  | _ => False
theorem ty_list_ok {K : PySem.W.Frag} {Z I H : Hp} {W : Wd} {x : D} {v : V} (S : SR K Z I W H) (r : Rep K I x v) (h : ty_list x W) : tyV K "list" v H := by
  cases x with
  | ref a =>
    cases r
    cases hw : W a with
    | none => simp only [ty_list, hw] at h
    | some c =>
      cases c with
      | lst xs =>
        obtain ⟨_, vs, hv, _⟩ := S.cell a _ hw
        exact .inl ⟨rfl, vs, .inl (.inl hv)⟩
      | ins C fs => simp only [ty_list, hw] at h
      | dk kvs => simp only [ty_list, hw] at h
      | xd kvs => simp only [ty_list, hw] at h
      | dn hs kvs => simp only [ty_list, hw] at h
      | tab q => simp only [ty_list, hw] at h
      | fn o c q => simp only [ty_list, hw] at h
  | lst xs =>
    cases r with
    | lst h1 h2 => exact .inl ⟨rfl, _, .inl (.inl (S.imm _ _ h1))⟩
  | _ => exact h.elim
abbrev ty_append := ty_list
abbrev ty_clear := ty_list
abbrev ty_pop := ty_list
abbrev ty_count := ty_list
abbrev ty_index := ty_list
abbrev ty_remove := ty_list
def dAppend : RMd := fun x ds W Q => match x, ds with
  | .ref a, [d] => match W a with
    | some (.lst xs) => xs.length < sizeLine ∧ Q .non (updW W a (.lst (xs ++ [d])))
    | _ => False
  | _, _ => False
@[simp ↓] theorem dAppend_u : ∀ x ds W Q, dAppend x ds W Q = (match x, ds with
  | .ref a, [d] => match W a with
    | some (.lst xs) => xs.length < sizeLine ∧ Q .non (updW W a (.lst (xs ++ [d])))
    | _ => False
  | _, _ => False) := fun _ _ _ _ => propext Iff.rfl
theorem mtd_append : MtD X "list" "list.append" ty_append dAppend := by
  refine ⟨_, mt_append, ty_list_ok, fun {Z I W H x v xs vs Qd Q} S rx r h sv => ?_⟩
  unfold dAppend at h
  split at h
  · split at h
    · rename_i hw
      cases rx
      obtain ⟨u, rfl, ru⟩ := rep1 r
      obtain ⟨hI, vs, hv, rv⟩ := S.cell _ _ hw
      refine ⟨_, vs, u, rfl, rfl, hv, by rw [← rv.length]; exact h.1, ?_⟩
      exact sv _ _ _ I _ (Same.refl I) (S.put hI (S.noZ hw) (c := .lst _) ⟨_, upd_same, rv.append (.cons ru .nil)⟩) .non h.2
    · exact h.elim
  · exact h.elim
def dClear : RMd := fun x ds W Q => match x, ds with
  | .ref a, [] => match W a with
    | some (.lst _) => Q .non (updW W a (.lst []))
    | _ => False
  | _, _ => False
@[simp ↓] theorem dClear_u : ∀ x ds W Q, dClear x ds W Q = (match x, ds with
  | .ref a, [] => match W a with
    | some (.lst _) => Q .non (updW W a (.lst []))
    | _ => False
  | _, _ => False) := fun _ _ _ _ => propext Iff.rfl
theorem mtd_clear : MtD X "list" "list.clear" ty_clear dClear := by
  refine ⟨_, mt_clear, ty_list_ok, fun {Z I W H x v xs vs Qd Q} S rx r h sv => ?_⟩
  unfold dClear at h
  split at h
  · split at h
    · rename_i hw
      cases rx
      cases r
      obtain ⟨hI, vs, hv, rv⟩ := S.cell _ _ hw
      exact ⟨_, vs, rfl, rfl, hv, sv _ _ _ I _ (Same.refl I) (S.put hI (S.noZ hw) (c := .lst []) ⟨_, upd_same, .nil⟩) .non h⟩
    · exact h.elim
  · exact h.elim
def dPopAt : RMd := fun x ds W Q => match x, ds with
  | .ref a, [.int i] => match W a with
    | some (.lst xs) => (0 ≤ i ∧ i < xs.length ∧ xs.length ≤ 1000000) ∧ match xs[i.toNat]? with
      | some d => Q d (updW W a (.lst (xs.eraseIdx i.toNat)))
      | none => False
    | _ => False
  | _, _ => False
@[simp ↓] theorem dPopAt_u : ∀ x ds W Q, dPopAt x ds W Q = (match x, ds with
  | .ref a, [.int i] => match W a with
    | some (.lst xs) => (0 ≤ i ∧ i < xs.length ∧ xs.length ≤ 1000000) ∧ match xs[i.toNat]? with
      | some d => Q d (updW W a (.lst (xs.eraseIdx i.toNat)))
      | none => False
    | _ => False
  | _, _ => False) := fun _ _ _ _ => propext Iff.rfl
theorem mtd_pop : MtD X "list" "list.pop" ty_pop dPopAt := by
  refine ⟨_, mt_popAt, ty_list_ok, fun {Z I W H x v xs vs Qd Q} S rx r h sv => ?_⟩
  unfold dPopAt at h
  split at h
  · rename_i a i
    split at h
    · rename_i xs hw
      obtain ⟨⟨h0, h1, h2⟩, h⟩ := h
      cases rx
      obtain ⟨u, rfl, ru⟩ := rep1 r
      cases ru
      obtain ⟨hI, vs, hv, rv⟩ := S.cell _ _ hw
      have hl := rv.length
      cases e : xs[i.toNat]? with
      | none => rw [e] at h; exact h.elim
      | some d =>
        rw [e] at h
        obtain ⟨u, hu, ru⟩ := rv.get e
        exact ⟨_, vs, i, i.toNat, u, rfl, rfl, hv, by omega, by omega, PySem.StrLaws.seqIndex_nonneg h0 (by omega), hu, sv _ _ _ I _ (Same.refl I) (S.put hI (S.noZ hw) (c := .lst _) ⟨_, upd_same, rv.eraseIdx _⟩) ru h⟩
    · exact h.elim
  · exact h.elim
variable {o e : Expr} {to_ : TD} {apos cpos : Pos} {es : List Expr} {tr : TAd}
theorem m_append (ho : DE X E o to_) (ha : DA X E (e :: es) tr)
    (hbase : attributeBase o "append" X.env (eval o X.env) = eval o X.env := by rfl)
    (hfew : ((backTo cpos (starEach (e :: es) X.env)).all (fun x => !x.1) && (backToKw cpos (keywordEach [] X.env)).all (fun x => x.1.isSome)
      && decide ((e :: es).length + ([] : List Keyword).length + (if ([] : List Keyword).isEmpty then 0 else 1) < 30)) = true := by rfl)
    (hline : (apos.endLine == cpos.line) = true := by rfl) (hs : starEach (e :: es) X.env = (false, eval e X.env) :: starEach es X.env := by rfl) (hplain : (backTo cpos (starEach es X.env)).any (·.1) = false := by rfl) :
    DE X E (.Call (.Attribute o "append" apos) (e :: es) [] cpos) (tdBM ty_append dAppend to_ tr) := de_bm PySem.F.plainAttrs_list PySem.F.slot_list_append PySem.F.type_list_append mtd_append ho ha hbase hfew hline hs hplain
theorem m_pop (ho : DE X E o to_) (ha : DA X E (e :: es) tr)
    (hbase : attributeBase o "pop" X.env (eval o X.env) = eval o X.env := by rfl)
    (hfew : ((backTo cpos (starEach (e :: es) X.env)).all (fun x => !x.1) && (backToKw cpos (keywordEach [] X.env)).all (fun x => x.1.isSome)
      && decide ((e :: es).length + ([] : List Keyword).length + (if ([] : List Keyword).isEmpty then 0 else 1) < 30)) = true := by rfl)
    (hline : (apos.endLine == cpos.line) = true := by rfl) (hs : starEach (e :: es) X.env = (false, eval e X.env) :: starEach es X.env := by rfl) (hplain : (backTo cpos (starEach es X.env)).any (·.1) = false := by rfl) :
    DE X E (.Call (.Attribute o "pop" apos) (e :: es) [] cpos) (tdBM ty_pop dPopAt to_ tr) := de_bm PySem.F.plainAttrs_list PySem.F.slot_list_pop PySem.F.type_list_pop mtd_pop ho ha hbase hfew hline hs hplain
theorem m_clear (ho : DE X E o to_)
    (hbase : attributeBase o "clear" X.env (eval o X.env) = eval o X.env := by rfl) (hline : (apos.endLine == cpos.line) = true := by rfl) :
    DE X E (.Call (.Attribute o "clear" apos) [] [] cpos) (tdBM ty_clear dClear to_ tdNil) := de_bm0 PySem.F.plainAttrs_list PySem.F.slot_list_clear PySem.F.type_list_clear mtd_clear ho hbase hline

/-! ### isinstance with one built-in type -/
/-- the type of data -/
def tyD (W : Wd) : D → Option String
  | .non => some "NoneType"
  | .bl _ => some "bool"
  | .int _ => some "int"
  | .str _ => some "str"
  | .tup _ => some "tuple"
  | .lst _ => some "list"
  | .ref a => match W a with
    | some (.lst _) => some "list"
    | _ => none
  | _ => none
theorem tyx_of {K : PySem.W.Frag} {Z I H : Hp} {W : Wd} {x : D} {v : V} {T : String} (S : SR K Z I W H) (r : Rep K I x v) (h : tyD W x = some T) : TyX K H v (.type T) := by
  cases x with
  | non => cases r; cases h; exact .base .non
  | bl b => cases r; cases h; exact .base (.bl b)
  | int i => cases r; cases h; exact .base (.int i)
  | str z => cases r; cases h; exact .base (.str z)
  | tup xs =>
    cases h
    cases r with
    | tup h1 h2 =>
      rcases sqT_same S.imm h1 with (q | ⟨o, q⟩) | ⟨o, its, n, q1, q2, _⟩
      · exact .base (.tup q)
      · exact .fTuple q
      · exact .kTuple q1 q2
  | lst xs =>
    cases h
    cases r with
    | lst h1 h2 => exact .base (.lst (S.imm _ _ h1))
  | ref a =>
    cases r
    cases hw : W a with
    | none => simp [tyD, hw] at h
    | some c =>
      cases c with
      | lst xs =>
        simp [tyD, hw] at h
        subst h
        obtain ⟨_, vs, hv, _⟩ := S.cell a _ hw
        exact .base (.lst hv)
      | ins C fs => simp [tyD, hw] at h
      | dk kvs => simp [tyD, hw] at h
      | xd kvs => simp [tyD, hw] at h
      | dn hs kvs => simp [tyD, hw] at h
      | tab q => simp [tyD, hw] at h
      | fn o c q => simp [tyD, hw] at h
  | _ => simp [tyD] at h
/-- what isinstance answers: the same type, or bool below int -/
@[simp] def isTyB (T U : String) : Bool := T == U || (T == "bool" && U == "int")
def tyList : List String := ["NoneType", "bool", "int", "str", "tuple", "list"]
theorem kit_tyB {K : PySem.W.Frag} : ∀ T ∈ tyList, ∀ U ∈ ["bool", "int", "str", "tuple", "list"], PySem.W.kitOne K (.type T) (.type U) = some (isTyB T U) := by
  intro T hT U hU
  simp only [tyList, List.mem_cons, List.not_mem_nil, or_false] at hT hU
  rcases hT with rfl | rfl | rfl | rfl | rfl | rfl <;> rcases hU with rfl | rfl | rfl | rfl | rfl <;> exact kit_ty (by decide +kernel)
theorem tyD_mem {W : Wd} {x : D} {T : String} (h : tyD W x = some T) : T ∈ tyList := by
  cases x with
  | ref a =>
    cases hw : W a with
    | none => simp [tyD, hw] at h
    | some c => cases c <;> simp [tyD, hw] at h; subst h; decide
  | _ => simp [tyD] at h <;> (subst h; decide)
def tdIsTy (U : String) (te : TD) : TD := fun ρ W Q E => te ρ W (fun x W1 => match tyD W1 x with
  | some T => Q (.bl (isTyB T U)) W1
  | none => False) E
@[simp ↓] theorem tdIsTy_u (U : String) (te : TD) : ∀ ρ W Q E, tdIsTy U te ρ W Q E = (te ρ W (fun x W1 => match tyD W1 x with
  | some T => Q (.bl (isTyB T U)) W1
  | none => False) E) := fun _ _ _ _ => propext Iff.rfl
theorem de_isTy {U : String} {x : Str} {te : TD} {p p2 : Pos} (cc : Ct X E j) (hm : X.mg "isinstance" = none) (hm2 : X.mg x = none) (he : DE X E e te) (hU : U ∈ ["bool", "int", "str", "tuple", "list"] := by decide) (hv : bootBuiltins x = some (.type U) := by decide +kernel) (hg : Gl X "isinstance" := by rfl) (hg2 : Gl X x := by rfl) (hn : x ≠ "__name__" := by decide) (hdb : (x == ("__debug__" : Str)) = false := by decide)
    (hs : starEach [e, .Name x p2] X.env = (false, eval e X.env) :: starEach [.Name x p2] X.env := by rfl) (hs2 : starEach [.Name x p2] X.env = (false, eval (.Name x p2) X.env) :: starEach [] X.env := by rfl) (hpl : (backTo pos (starEach [.Name x p2] X.env)).any (·.1) = false := by rfl) :
    DE X E (.Call (.Name "isinstance" p) [e, .Name x p2] [] pos) (tdIsTy U te) := by
  obtain ⟨t1, p1, d1⟩ := he.ex
  refine ⟨_, pe_callB call_isi hg hm bt_isinstance (pa_cons p1 (pa_cons (pe_bltn (v := .ty U) hg2 hm2 hv rfl hn hdb) pa_nil hs2) hs) (by decide) (by decide) hs hpl, fun {Z I W H σ ρ Qd Ed Q} S R h sv sx => ?_⟩
  refine d1 S R h (fun x W1 v I1 H1 e1 S1 r1 h1 => ?_) sx
  cases ht : tyD W1 x with
  | none => simp only [ht] at h1
  | some T =>
    simp only [ht] at h1
    exact ⟨v, .ty U, .type T, .type U, _, rfl, .ty U, tyx_of S1 r1 ht, kit_tyB T (tyD_mem ht) U hU, sv _ W1 _ I1 H1 e1 S1 (.bl _) h1⟩

/-! ### reversed -/
theorem iter_rev {K : PySem.W.Frag} {I : Hp} {a : Addr} {vs : List V} {ds : List D} (h : I a = some (.lst vs)) (r : RepL K I ds vs) : Iter K I ds.reverse (fun _ => True) (Itv K a vs.length) := by
  have hl := r.length
  refine ⟨fun i Z I' W H hi e S _ => ?_, fun i d Z I' W H x H' hd e S _ y => ?_, fun Z I' W H e S _ => by show vs.length ≤ _; rw [List.length_reverse, hl]; exact Nat.le_refl _⟩
  · rw [List.length_reverse] at hi
    exact ⟨by omega, vs, vs[vs.length - 1 - i]'(by omega), .inl (.inl (S.imm _ _ (e _ _ h))), by simp⟩
  · obtain ⟨rfl, y⟩ := y
    have hx := y vs (.inl (.inl (S.imm _ _ (e _ _ h))))
    obtain ⟨d', h1, h2⟩ := r.get' hx
    have hi : i < ds.length := by
      have := (List.getElem?_eq_some_iff.mp hd).1
      rwa [List.length_reverse] at this
    rw [List.getElem?_reverse hi, hl, h1] at hd
    cases hd
    exact ⟨I', Same.refl _, S, h2.mono e⟩
theorem iter_revC {K : PySem.W.Frag} {I : Hp} {a : Addr} {n : Nat} {ds : List D} (hn : n = ds.length) : Iter K I ds.reverse (fun W => W a = some (.lst ds)) (Itv K a n) := by
  subst hn
  refine ⟨fun i Z I' W H hi e S g => ?_, fun i d Z I' W H x H' hd e S g y => ?_, fun Z I' W H e S g => by show ds.length ≤ _; rw [List.length_reverse]; exact Nat.le_refl _⟩
  · obtain ⟨_, vs, hv, rv⟩ := S.cell a _ g
    have hl := rv.length
    rw [List.length_reverse] at hi
    exact ⟨by omega, vs, vs[ds.length - 1 - i]'(by omega), .inl (.inl hv), by simp⟩
  · obtain ⟨_, vs, hv, rv⟩ := S.cell a _ g
    have hl := rv.length
    obtain ⟨rfl, y⟩ := y
    obtain ⟨d', h1, h2⟩ := rv.get' (y vs (.inl (.inl hv)))
    have hi : i < ds.length := by
      have := (List.getElem?_eq_some_iff.mp hd).1
      rwa [List.length_reverse] at this
    rw [List.getElem?_reverse hi, h1] at hd
    cases hd
    exact ⟨I', Same.refl _, S, h2⟩
theorem di_rev {tg : Expr} {te : TD} {p : Pos} (hm : X.mg "reversed" = none) (he : DE X E e te) (hg : Gl X "reversed" := by rfl) (hs : starEach [e] X.env = [(false, eval e X.env)] := by rfl) : DI X E tg (.Call (.Name "reversed" p) [e] [] pos) (tiRev te) := by
  obtain ⟨t1, p1, d1⟩ := he.ex
  refine ⟨_, pi_reversed hg hm (pa_cons p1 pa_nil hs) hs, fun {Z I W H σ ρ Rd Ed R} S R0 h k sx => ?_⟩
  refine d1 S R0 h (fun x W1 v I1 H1 e1 S1 r1 h1 => ?_) sx
  cases x with
  | lst xs =>
    cases r1 with
    | lst q1 q2 => exact ⟨_, _, rfl, .inl (.inl (S1.imm _ _ q1)), k _ _ W1 I1 H1 _ e1 S1 (iter_rev q1 q2) h1⟩
  | ref a =>
    cases r1
    cases hw : W1 a with
    | none => simp only [hw] at h1
    | some cc =>
      cases cc with
      | lst xs =>
        simp only [hw] at h1
        obtain ⟨_, vs, hv, rv⟩ := S1.cell a _ hw
        exact ⟨_, vs, rfl, .inl (.inl hv), k _ _ W1 I1 H1 _ e1 S1 (iter_revC rv.length.symm) h1⟩
      | ins C fs => simp only [hw] at h1
      | dk kvs => simp only [hw] at h1
      | xd kvs => simp only [hw] at h1
      | dn hs kvs => simp only [hw] at h1
      | tab q => simp only [hw] at h1
      | fn o c q => simp only [hw] at h1
  | _ => exact h1.elim

/-! ### tests: chains -/
theorem dt_chain3 {op op' op'' : CmpOp} {r r' r'' : R2d} (ho : OpD X (compareOp op) r) (ho' : OpD X (compareOp op') r') (ho'' : OpD X (compareOp op'') r'') (ha : DE X E a ta) (hb : DE X E b tb) (hc : DE X E c tc) (hd : DE X E d td)
    (hm : lastMarks [op, op', op''] [b, c, d] = false := by with_unfolding_all rfl) (he : ∀ whole, isTrue (.Compare a [op, op', op''] [b, c, d] pos) X.env whole = (do let v ← whole; standAt pos; holding [v] (truthy v)) := by intro _; rfl) : DT X E (.Compare a [op, op', op''] [b, c, d] pos) (tdB (tdChain3 r r' r'' ta tb tc td)) :=
  dt_val (de_chain3 ho ho' ho'' ha hb hc hd hm) he
end
/-- the slots at a def's entry, by their number -/
@[simp] def startN : Nat → List D → DEnv
  | 0, _ => []
  | n + 1, d :: ds => some d :: startN n ds
  | n + 1, [] => none :: startN n []
theorem startS_eq : ∀ (N : List Str) (ds : List D), startS N ds = startN N.length ds
  | [], _ => rfl
  | _ :: N, d :: ds => congrArg (some d :: ·) (startS_eq N ds)
  | _ :: N, [] => congrArg (none :: ·) (startS_eq N [])
section
variable {P : Program} {w : World} {K : PySem.W.Frag} {mg : Str → Option Value} {base : Heap}
/-- a def by its body's derivation and the reading of its body -/
theorem fn_q {x qual : Str} {st : Stmt} {f : Addr} {fd : FuncData} {N ps : List Str} {k n : Nat} {spd : SpD} {td : TSd} (F : Fun K x qual st f fd) (S : FnScope N ps (defScope st)) (hn : N.length = n) (len : ∀ ds W Q E, spd ds W Q E → ds.length = ps.length)
    (hq : ∀ ds W Qd Ed, spd ds W Qd Ed → td { nx := fun _ W' => Qd .non W', rt := Qd, ex := Ed } (startN n ds) W)
    (hbody : ∀ (cdv : Value) (A : Around) (outer : List Env) (s : Shared) (H : Hp) (E : XK), Ct (cxOf (L2.CX P w) P w K mg base N qual (defScope st) f cdv A outer s H E) E k →
      DSs (cxOf (L2.CX P w) P w K mg base N qual (defScope st) f cdv A outer s H E) E (defBody st) td) :
    FnOk P w K mg base (L2.CX P w) (k + 1) f fd ps (liftS K spd) := fn_d F S len fun cdv A outer s H E c => ⟨td, hbody cdv A outer s H E c, fun ds W Qd Ed h => by rw [startS_eq, hn]; exact hq ds W Qd Ed h⟩
end
end DL

/-! DL9: small helps. -/
namespace DL
open PySem PySem.Spec PyProof.Rows L2
theorem blk_ok {X : Cx} {N P : List Str} {s0 scope : Scope} {own : List (Str × Nat)} (_ : FnScope N P s0) (hN : X.N = N) (hs : X.env.scope = s0) (h : blkC N s0 scope own = true) : blkC X.N X.env.scope scope own = true := by
  rw [hN, hs]; exact h
/-- a comprehension inside a comprehension that reads nothing from around -/
theorem blk_in {X : Cx} {N P : List Str} {s0 scope : Scope} {own : List (Str × Nat)} (_ : FnScope N P s0) (hN : X.N = N) (hf : (scope.names.all fun y => match y.2 with | .free => false | _ => true) = true) (h : blkC N s0 scope own = true) : blkC X.N X.env.scope scope own = true := by
  rw [hN]
  unfold blkC at h ⊢
  simp only [Bool.and_eq_true] at h ⊢
  refine ⟨h.1, ?_⟩
  rw [List.all_eq_true] at hf ⊢
  have h2 := List.all_eq_true.mp h.2
  intro y hy
  have a := hf y hy
  have b := h2 y hy
  cases e : y.2 <;> simp only [e] at a b ⊢ <;> first | exact b | (cases a)
def relS (s1 s0 : Scope) : Scope := { s1 with names := s1.names.map fun (n, k) => if (k == .free && s0.kind == .function && s0.names.lookup n == some .cell) then (n, .cell) else (n, k) }
/-- a comprehension inside a comprehension -/
theorem blk_in2 {X : Cx} {N P : List Str} {s0 s1 scope : Scope} {env0 : Env} {own : List (Str × Nat)} (_ : FnScope N P s0) (hN : X.N = N) (hs : X.env.scope = relabel s1 env0) (h0 : env0.scope = s0) (h : blkC N (relS s1 s0) scope own = true) : blkC X.N X.env.scope scope own = true := by
  rw [hN, hs]
  subst h0
  exact h
/-- a module's constant tuple -/
theorem glob_tup {K : PySem.W.Frag} {mg : Str → Option Value} {x : Str} {a : Addr} {od : Option Addr} {its : Array Value} {n : Nat} {sl : Array (Option Value)} {vs : List V} {ds : List D} (hm : mg x = some (.ref a)) (hl : K.lookup a = some ⟨.type "tuple", od, .seq its n, sl⟩)
    (hs : its.size ≤ sizeLine) (hv : Vals vs its.toList) (hr : ∀ I, RepL K I ds vs) : GlobD K mg x (.tup ds) :=
  ⟨_, .ref a, hm, rfl, fun I => .tup (.inr ⟨_, its, n, hl, rfl, rfl, hs, hv⟩) (hr I)⟩
theorem glob_int {K : PySem.W.Frag} {mg : Str → Option Value} {x : Str} {i : Int} {t : Tok} (hm : mg x = some (.int i t)) : GlobD K mg x (.int i) := ⟨_, .int i, hm, ⟨t, rfl⟩, fun _ => .int i⟩
theorem glob_str {K : PySem.W.Frag} {mg : Str → Option Value} {x : Str} {i : Str} {t : Tok} (hm : mg x = some (.str i t)) : GlobD K mg x (.str i) := ⟨_, .str i, hm, ⟨t, rfl⟩, fun _ => .str i⟩
/-- the law's own call -/
theorem hsp_of {K : PySem.W.Frag} {spd : SpD} (h : ∀ ns : List Int, spd [.scr ns] (fun _ => none) (fun d _ => d = .bl true) (fun _ _ _ => False)) (H : Hp) (a : Addr) (ns : List Int) (hS : SqL K H a (ns.map V.int)) : liftS K spd [.ref a] H (fun v _ => v = .bl true) fun _ _ _ => False := by
  have S : SR K (fun _ => none) H (fun _ => none) H := ⟨Same.refl _, (fun _ _ e => by cases e), (fun _ _ e => by cases e)⟩
  refine ⟨fun _ => none, H, fun _ => none, [.scr ns], _, _, S, .cons (.scr hS) .nil, h ns, fun d W v I' H' _ _ r q => ?_, fun _ _ _ _ _ _ _ _ _ _ _ h => h⟩
  subst q; cases r; rfl
theorem hCX_of {P : Program} {w : World} {H : Hp} {s : Shared} {e : Value} {s' : Shared} (h : L2.CX P w [] H s (fun _ _ _ => False) e s') : False := by
  obtain ⟨_, _, _, _, _, _, _, _, _, _, _, _, hE⟩ := h
  exact hE
end DL

/-! DL10: dicts with text keys that change, count and remove of lists of ints. -/
namespace DL
open PySem PySem.Spec PyProof.Rows L2
/-- a pair put, of a dict with text keys -/
def putM (kvs : List (Str × D)) (k : Str) (v : D) : List (Str × D) := if (kvs.any fun kv => decide (kv.1 = k)) = true then kvs.map (fun kv => if kv.1 = k then (kv.1, v) else kv) else kvs ++ [(k, v)]
theorem RepK.any {K : PySem.W.Frag} {I : Hp} {f : Str} : ∀ {ds : List (Str × D)} {vs : List (Key × V)}, RepK K I ds vs → (vs.any fun kv => decide (kv.1 = (Sum.inr f : Key))) = ds.any fun kv => decide (kv.1 = f)
  | _, _, .nil => rfl
  | _, _, .cons (f := g) q t => by
    rw [List.any_cons, List.any_cons, RepK.any t]
    congr 1
    simp
theorem RepK.mapPut {K : PySem.W.Frag} {I : Hp} {f : Str} {d : D} {v : V} (r : Rep K I d v) : ∀ {ds : List (Str × D)} {vs : List (Key × V)}, RepK K I ds vs → RepK K I (ds.map fun kv => if kv.1 = f then (kv.1, d) else kv) (vs.map fun kv => if kv.1 = (Sum.inr f : Key) then (kv.1, v) else kv)
  | _, _, .nil => .nil
  | _, _, .cons (f := g) q t => by
    rw [List.map_cons, List.map_cons]
    by_cases h : g = f
    · subst h
      rw [if_pos rfl, if_pos rfl]; exact .cons r (RepK.mapPut r t)
    · rw [if_neg h, if_neg (fun e => h (Sum.inr.inj e))]; exact .cons q (RepK.mapPut r t)
theorem RepK.append {K : PySem.W.Frag} {I : Hp} : ∀ {ds es : List (Str × D)} {vs us : List (Key × V)}, RepK K I ds vs → RepK K I es us → RepK K I (ds ++ es) (vs ++ us)
  | _, _, _, _, .nil, s => s
  | _, _, _, _, .cons q t, s => .cons q (RepK.append t s)
theorem RepK.put {K : PySem.W.Frag} {I : Hp} {f : Str} {d : D} {v : V} (r : Rep K I d v) {ds : List (Str × D)} {vs : List (Key × V)} (h : RepK K I ds vs) : RepK K I (putM ds f d) (putK vs (Sum.inr f) v) := by
  unfold putM putK
  rw [h.any]
  split
  · exact h.mapPut r
  · exact h.append (.cons r .nil)
section
variable {X : Cx} {E : XK} {j : Nat} {pos : Pos} {o i e : Expr} {to_ ti te : TD}
def dSetK : D → D → D → Wd → (Wd → Prop) → Prop := fun o i d W Q => match o, i with
  | .ref a, .str k => match W a with
    | some (.dk kvs) => kvs.length < sizeLine ∧ Q (updW W a (.dk (putM kvs k d)))
    | _ => False
  | _, _ => False
@[simp ↓] theorem dSetK_u : ∀ o i d W Q, dSetK o i d W Q = (match o, i with
  | .ref a, .str k => match W a with
    | some (.dk kvs) => kvs.length < sizeLine ∧ Q (updW W a (.dk (putM kvs k d)))
    | _ => False
  | _, _ => False) := fun _ _ _ _ _ => propext Iff.rfl
def tsDk (to_ ti te : TD) : TSd := fun D ρ W => te ρ W (fun d W1 => to_ ρ W1 (fun o W2 => ti ρ W2 (fun i W3 => dSetK o i d W3 (D.nx ρ)) D.ex) D.ex) D.ex
@[simp ↓] theorem tsDk_u (to_ ti te : TD) : ∀ D ρ W, tsDk to_ ti te D ρ W = (te ρ W (fun d W1 => to_ ρ W1 (fun o W2 => ti ρ W2 (fun i W3 => dSetK o i d W3 (D.nx ρ)) D.ex) D.ex) D.ex) := fun _ _ _ => propext Iff.rfl
theorem ds_dk {tpos : Pos} (c : Ct X E j) (ho : DE X E o to_) (hi : DE X E i ti) (he : DE X E e te) (hs : swapsWithSole [.Subscript o i tpos] e pos.line X.env = pure false := by rfl) (hw : swappedStores [.Subscript o i tpos] e X.env = pure none := by rfl)
    (h1 : (assignEach [.Subscript o i tpos] X.env).map (·.2) = [assign (.Subscript o i tpos) X.env] := by rfl)
    (ha : ∀ v, assign (.Subscript o i tpos) X.env v = (do
      let ov ← holding [v] (eval o X.env)
      let iv ← holding [v, ov] (eval i X.env)
      standAt tpos
      holding [v, ov, iv] (setItem ov iv v)
      release [v, ov, iv] []) := by intro _; rfl) : DS X E (.Assign [.Subscript o i tpos] e pos) (tsDk to_ ti te) := by
  obtain ⟨t0, p0, d0⟩ := ho.ex
  obtain ⟨t1, p1, d1⟩ := hi.ex
  obtain ⟨t2, p2, d2⟩ := he.ex
  refine ⟨_, ps_asg p2 (pg_sub p0 p1 (set_dict c.hu) ha) hs hw h1, fun {Z I W H σ ρ Dd D} S R h k => ?_⟩
  refine d2 S R h (fun d W1 v I1 H1 e1 S1 r1 h1 => ?_) k.ex
  refine d0 S1 (R.mono e1) h1 (fun o W2 ov I2 H2 e2 S2 r2 h2 => ?_) (k.ex.mono e1)
  have e12 := e1.trans e2
  refine d1 S2 (R.mono e12) h2 (fun i W3 iv I3 H3 e3 S3 r3 h3 => ?_) (k.ex.mono e12)
  have e13 := e12.trans e3
  unfold dSetK at h3
  split at h3
  · rename_i a n
    cases r3
    have r2' := r2.mono e3
    cases r2'
    split at h3
    · rename_i xs hw
      obtain ⟨hl, q⟩ := h3
      obtain ⟨hI, vs, hv, rv⟩ := S3.cell a _ hw
      have hlen := rv.length
      refine ⟨a, _, rfl, DPut.k (k := (Sum.inr n : Key)) hv (by omega), ?_⟩
      exact k.nx ρ _ σ I3 _ e13 (S3.put hI (S3.noZ hw) (c := .dk (putM xs n d)) ⟨_, upd_same, rv.put (r1.mono (e2.trans e3))⟩) (R.mono e13) q
    · exact h3.elim
  · exact h3.elim
/-- count, remove -/
def dCount : RMd := fun x ds W Q => match ds with
  | [.int k] => ∃ ns : List Int, itemsD W x = some (ns.map D.int) ∧ Q (.int (ns.count k : Nat)) W
  | _ => False
@[simp ↓] theorem dCount_u : ∀ x ds W Q, dCount x ds W Q = (match ds with
  | [.int k] => ∃ ns : List Int, itemsD W x = some (ns.map D.int) ∧ Q (.int (ns.count k : Nat)) W
  | _ => False) := fun _ _ _ _ => propext Iff.rfl
theorem items_list {K : PySem.W.Frag} {Z I H : Hp} {W : Wd} {x : D} {v : V} {ds : List D} (S : SR K Z I W H) (r : Rep K I x v) (ht : ty_list x W) (h : itemsD W x = some ds) : ∃ p ys, v = .ref p ∧ SqL K H p ys ∧ RepL K I ds ys := by
  cases x with
  | lst xs =>
    cases r with
    | lst h1 h2 => cases h; exact ⟨_, _, rfl, .inl (.inl (S.imm _ _ h1)), h2⟩
  | ref a =>
    cases r
    cases hw : W a with
    | none => simp [itemsD, hw] at h
    | some c =>
      cases c with
      | lst xs =>
        simp [itemsD, hw] at h
        subst h
        obtain ⟨_, vs, hv, rv⟩ := S.cell a _ hw
        exact ⟨_, _, rfl, .inl (.inl hv), rv⟩
      | ins C fs => simp [itemsD, hw] at h
      | dk kvs => simp [itemsD, hw] at h
      | xd kvs => simp [itemsD, hw] at h
      | dn hs kvs => simp [itemsD, hw] at h
      | tab q => simp [itemsD, hw] at h
      | fn o c q => simp [itemsD, hw] at h
  | _ => exact ht.elim
def rCntT (K : PySem.W.Frag) : V → List V → Hp → VK → Prop := rCntI K
/-- a list's method that changes nothing: what it is read as -/
def tyL (r : RMd) : RMd := fun x ds W Q => ty_list x W ∧ r x ds W Q
@[simp ↓] theorem tyL_u (r : RMd) : ∀ x ds W Q, tyL r x ds W Q = (ty_list x W ∧ r x ds W Q) := fun _ _ _ _ => propext Iff.rfl
theorem mtd_count : MtD X "list" "list.count" ty_count (tyL dCount) := by
  refine ⟨_, mt_lcount, ty_list_ok, fun {Z I W H x v xs vs Qd Q} S rx r h sv => ?_⟩
  obtain ⟨ht, h⟩ := h
  unfold dCount at h
  split at h
  · obtain ⟨ns, hi, q⟩ := h
    obtain ⟨u, rfl, ru⟩ := rep1 r
    cases ru
    obtain ⟨p, ys, rfl, hs, rl⟩ := items_list S rx ht hi
    have := rl.ints_of
    subst this
    exact ⟨p, ns, _, rfl, rfl, hs, sv _ W _ I H (Same.refl I) S (.int _) q⟩
  · exact h.elim
def dRemove : RMd := fun x ds W Q => match x, ds with
  | .ref a, [.int k] => ∃ (ns : List Int) (j : Nat), W a = some (.lst (ns.map D.int)) ∧ ns[j]? = some k ∧ (∀ m : Nat, m < j → ns[m]? ≠ some k) ∧ Q .non (updW W a (.lst ((ns.eraseIdx j).map D.int)))
  | _, _ => False
@[simp ↓] theorem dRemove_u : ∀ x ds W Q, dRemove x ds W Q = (match x, ds with
  | .ref a, [.int k] => ∃ (ns : List Int) (j : Nat), W a = some (.lst (ns.map D.int)) ∧ ns[j]? = some k ∧ (∀ m : Nat, m < j → ns[m]? ≠ some k) ∧ Q .non (updW W a (.lst ((ns.eraseIdx j).map D.int)))
  | _, _ => False) := fun _ _ _ _ => propext Iff.rfl
theorem mtd_remove : MtD X "list" "list.remove" ty_remove dRemove := by
  refine ⟨_, mt_remove, ty_list_ok, fun {Z I W H x v xs vs Qd Q} S rx r h sv => ?_⟩
  unfold dRemove at h
  split at h
  · obtain ⟨ns, j, hw, h1, h2, q⟩ := h
    cases rx
    obtain ⟨u, rfl, ru⟩ := rep1 r
    cases ru
    obtain ⟨hI, vs, hv, rv⟩ := S.cell _ _ hw
    have := rv.ints_of
    subst this
    exact ⟨_, ns, _, j, rfl, rfl, hv, h1, h2, sv _ _ _ I _ (Same.refl I) (S.put hI (S.noZ hw) (c := .lst _) ⟨_, upd_same, RepL.ints _⟩) .non q⟩
  · exact h.elim
variable {apos cpos : Pos} {es : List Expr} {tr : TAd}
theorem m_count (ho : DE X E o to_) (ha : DA X E (e :: es) tr)
    (hbase : attributeBase o "count" X.env (eval o X.env) = eval o X.env := by rfl)
    (hfew : ((backTo cpos (starEach (e :: es) X.env)).all (fun x => !x.1) && (backToKw cpos (keywordEach [] X.env)).all (fun x => x.1.isSome)
      && decide ((e :: es).length + ([] : List Keyword).length + (if ([] : List Keyword).isEmpty then 0 else 1) < 30)) = true := by rfl)
    (hline : (apos.endLine == cpos.line) = true := by rfl) (hs : starEach (e :: es) X.env = (false, eval e X.env) :: starEach es X.env := by rfl) (hplain : (backTo cpos (starEach es X.env)).any (·.1) = false := by rfl) :
    DE X E (.Call (.Attribute o "count" apos) (e :: es) [] cpos) (tdBM ty_count (tyL dCount) to_ tr) := de_bm PySem.F.plainAttrs_list PySem.F.slot_list_count PySem.F.type_list_count mtd_count ho ha hbase hfew hline hs hplain
theorem m_remove (ho : DE X E o to_) (ha : DA X E (e :: es) tr)
    (hbase : attributeBase o "remove" X.env (eval o X.env) = eval o X.env := by rfl)
    (hfew : ((backTo cpos (starEach (e :: es) X.env)).all (fun x => !x.1) && (backToKw cpos (keywordEach [] X.env)).all (fun x => x.1.isSome)
      && decide ((e :: es).length + ([] : List Keyword).length + (if ([] : List Keyword).isEmpty then 0 else 1) < 30)) = true := by rfl)
    (hline : (apos.endLine == cpos.line) = true := by rfl) (hs : starEach (e :: es) X.env = (false, eval e X.env) :: starEach es X.env := by rfl) (hplain : (backTo cpos (starEach es X.env)).any (·.1) = false := by rfl) :
    DE X E (.Call (.Attribute o "remove" apos) (e :: es) [] cpos) (tdBM ty_remove dRemove to_ tr) := de_bm PySem.F.plainAttrs_list PySem.F.slot_list_remove PySem.F.type_list_remove mtd_remove ho ha hbase hfew hline hs hplain
end
end DL

/-! DL11: texts. -/
namespace DL
open PySem PySem.Spec PyProof.Rows L2
section
variable {X : Cx} {E : XK} {j : Nat} {pos : Pos} {o i e : Expr} {to_ ti te : TD}
def ty_str (x : D) (_ : Wd) : Prop := match x with
  | .str _ => True
  | _ => False
abbrev ty_join := ty_str
abbrev ty_split := ty_str
theorem ty_str_ok {K : PySem.W.Frag} {Z I H : Hp} {W : Wd} {x : D} {v : V} (S : SR K Z I W H) (r : Rep K I x v) (h : ty_str x W) : tyV K "str" v H := by
  cases x with
  | str z => cases r; rfl
  | _ => exact h.elim
/-- the texts of a list -/
def strsOf : List D → Option (List Str)
  | [] => some []
  | .str s :: r => (strsOf r).map (s :: ·)
  | _ :: _ => none
theorem strsOf_eq : ∀ {ds : List D} {ys : List Str}, strsOf ds = some ys → ds = ys.map D.str
  | [], ys, h => by simp [strsOf] at h; subst h; rfl
  | d :: r, ys, h => by
    cases d with
    | str s =>
      simp only [strsOf] at h
      cases e : strsOf r with
      | none => rw [e] at h; simp at h
      | some zs => rw [e] at h; simp at h; subst h; rw [strsOf_eq e]; rfl
    | _ => simp [strsOf] at h
@[simp] theorem strsOf_map (ys : List Str) : strsOf (ys.map D.str) = some ys := by
  induction ys with
  | nil => rfl
  | cons a as ih => simp [strsOf, ih]
@[simp] theorem strsOf_nil : strsOf [] = some [] := rfl
@[simp] theorem strsOf_cons (s : Str) (r : List D) : strsOf (.str s :: r) = (strsOf r).map (s :: ·) := rfl
def dJoin : RMd := fun x ds W Q => match x, ds with
  | .str sep, [y] => ∃ ys : List Str, (itemsD W y).bind strsOf = some ys ∧ (ys.map (·.length)).sum + ys.length * sep.length ≤ 16777216 ∧ Q (.str (Txt.join sep ys)) W
  | _, _ => False
@[simp ↓] theorem dJoin_u : ∀ x ds W Q, dJoin x ds W Q = (match x, ds with
  | .str sep, [y] => ∃ ys : List Str, (itemsD W y).bind strsOf = some ys ∧ (ys.map (·.length)).sum + ys.length * sep.length ≤ 16777216 ∧ Q (.str (Txt.join sep ys)) W
  | _, _ => False) := fun _ _ _ _ => propext Iff.rfl
theorem mtd_join : MtD X "str" "str.join" ty_join dJoin := by
  refine ⟨_, mt_join, ty_str_ok, fun {Z I W H x v xs vs Qd Q} S rx r h sv => ?_⟩
  unfold dJoin at h
  split at h
  · rename_i sep y
    obtain ⟨ys, hi, hl, q⟩ := h
    cases rx
    obtain ⟨u, rfl, ru⟩ := rep1 r
    cases ei : itemsD W y with
    | none => rw [ei] at hi; simp at hi
    | some ds =>
      rw [ei] at hi
      have := strsOf_eq hi
      subst this
      obtain ⟨p, zs, rfl, hs, rl⟩ := items_of S ru ei
      have := rl.strs_of
      subst this
      exact ⟨sep, p, ys, rfl, rfl, hs, hl, sv _ W _ I H (Same.refl I) S (.str _) q⟩
  · exact h.elim
def dSplit : RMd := fun x ds W Q => match x, ds with
  | .str a, [.str b] => (b.length ≠ 0 ∧ a.length + 2 ≤ sizeLine) ∧ Q (.lst ((Txt.split a b).map .str)) W
  | _, _ => False
@[simp ↓] theorem dSplit_u : ∀ x ds W Q, dSplit x ds W Q = (match x, ds with
  | .str a, [.str b] => (b.length ≠ 0 ∧ a.length + 2 ≤ sizeLine) ∧ Q (.lst ((Txt.split a b).map .str)) W
  | _, _ => False) := fun _ _ _ _ => propext Iff.rfl
theorem mtd_split : MtD X "str" "str.split" ty_split dSplit := by
  refine ⟨_, mt_split, ty_str_ok, fun {Z I W H x v xs vs Qd Q} S rx r h sv => ?_⟩
  unfold dSplit at h
  split at h
  · obtain ⟨⟨h1, h2⟩, q⟩ := h
    cases rx
    obtain ⟨u, rfl, ru⟩ := rep1 r
    cases ru
    exact ⟨_, _, rfl, rfl, by simpa using h1, h2, fun p hp => sim_lst S (RepL.strs _) sv hp q⟩
  · exact h.elim
variable {apos cpos : Pos} {es : List Expr} {tr : TAd}
theorem m_join (ho : DE X E o to_) (ha : DA X E (e :: es) tr)
    (hbase : attributeBase o "join" X.env (eval o X.env) = eval o X.env := by rfl)
    (hfew : ((backTo cpos (starEach (e :: es) X.env)).all (fun x => !x.1) && (backToKw cpos (keywordEach [] X.env)).all (fun x => x.1.isSome)
      && decide ((e :: es).length + ([] : List Keyword).length + (if ([] : List Keyword).isEmpty then 0 else 1) < 30)) = true := by rfl)
    (hline : (apos.endLine == cpos.line) = true := by rfl) (hs : starEach (e :: es) X.env = (false, eval e X.env) :: starEach es X.env := by rfl) (hplain : (backTo cpos (starEach es X.env)).any (·.1) = false := by rfl) :
    DE X E (.Call (.Attribute o "join" apos) (e :: es) [] cpos) (tdBM ty_join dJoin to_ tr) := de_bm PySem.F.plainAttrs_str PySem.F.slot_str_join PySem.F.type_str_join mtd_join ho ha hbase hfew hline hs hplain
theorem m_split (ho : DE X E o to_) (ha : DA X E (e :: es) tr)
    (hbase : attributeBase o "split" X.env (eval o X.env) = eval o X.env := by rfl)
    (hfew : ((backTo cpos (starEach (e :: es) X.env)).all (fun x => !x.1) && (backToKw cpos (keywordEach [] X.env)).all (fun x => x.1.isSome)
      && decide ((e :: es).length + ([] : List Keyword).length + (if ([] : List Keyword).isEmpty then 0 else 1) < 30)) = true := by rfl)
    (hline : (apos.endLine == cpos.line) = true := by rfl) (hs : starEach (e :: es) X.env = (false, eval e X.env) :: starEach es X.env := by rfl) (hplain : (backTo cpos (starEach es X.env)).any (·.1) = false := by rfl) :
    DE X E (.Call (.Attribute o "split" apos) (e :: es) [] cpos) (tdBM ty_split dSplit to_ tr) := de_bm PySem.F.plainAttrs_str PySem.F.slot_str_split PySem.F.type_str_split mtd_split ho ha hbase hfew hline hs hplain
/-- len, int of a text -/
def dLenS : RCd := fun xs W Q => match xs with
  | [.str z] => z.length ≤ sizeLine ∧ Q (.int z.length) W
  | _ => False
@[simp ↓] theorem dLenS_u : ∀ xs W Q, dLenS xs W Q = (match xs with
  | [.str z] => z.length ≤ sizeLine ∧ Q (.int z.length) W
  | _ => False) := fun _ _ _ => propext Iff.rfl
theorem cd_lenS : CallD X (.builtin "len") dLenS := by
  refine ⟨_, call_len_str, fun {Z I W H xs vs Qd Q} S r h sv => ?_⟩
  unfold dLenS at h
  split at h
  · obtain ⟨v, rfl, rx⟩ := rep1 r
    cases rx
    exact ⟨_, rfl, h.1, sv _ W _ I H (Same.refl I) S (.int _) h.2⟩
  · exact h.elim
def dIntS : RCd := fun xs W Q => match xs with
  | [.str z] => ∃ n, PySem.intText? z = some n ∧ z.length ≤ 640 ∧ Q (.int n) W
  | _ => False
@[simp ↓] theorem dIntS_u : ∀ xs W Q, dIntS xs W Q = (match xs with
  | [.str z] => ∃ n, PySem.intText? z = some n ∧ z.length ≤ 640 ∧ Q (.int n) W
  | _ => False) := fun _ _ _ => propext Iff.rfl
theorem cd_intS : CallD X (.type "int") dIntS := by
  refine ⟨_, call_int_str, fun {Z I W H xs vs Qd Q} S r h sv => ?_⟩
  unfold dIntS at h
  split at h
  · obtain ⟨v, rfl, rx⟩ := rep1 r
    cases rx
    obtain ⟨n, h1, h2, q⟩ := h
    exact ⟨_, n, rfl, h1, h2, sv _ W _ I H (Same.refl I) S (.int _) q⟩
  · exact h.elim
/-- one sign in a text -/
def dInS (neg : Bool) : R2d := fun x y W Q => match x, y with
  | .str a, .str z => ∃ c : Nat, a = ⟨#[c]⟩ ∧ Q (.bl (if neg then !decide (c ∈ z.cps.toList) else decide (c ∈ z.cps.toList))) W
  | _, _ => False
@[simp ↓] theorem dInS_u (neg : Bool) : ∀ x y W Q, dInS neg x y W Q = (match x, y with
  | .str a, .str z => ∃ c : Nat, a = ⟨#[c]⟩ ∧ Q (.bl (if neg then !decide (c ∈ z.cps.toList) else decide (c ∈ z.cps.toList))) W
  | _, _ => False) := fun _ _ _ _ => propext Iff.rfl
theorem od_notInS : OpD X (compareOp .NotIn) (dInS true) := by
  refine ⟨_, op_notIn_sign, fun {Z I W H x y v u Qd Q} S rx ry h sv => ?_⟩
  unfold dInS at h
  split at h
  · obtain ⟨c, rfl, q⟩ := h
    cases rx; cases ry
    exact ⟨c, _, rfl, rfl, sv _ W _ I H (Same.refl I) S (.bl _) q⟩
  · exact h.elim
/-- a list made by +, that will change -/
def dAddM : R2d := fun x y W Q => match x, y with
  | .lst xs, .lst ys => xs.length + ys.length ≤ sizeLine ∧ ∀ p, W p = none → Q (.ref p) (updW W p (.lst (xs ++ ys)))
  | _, _ => False
@[simp ↓] theorem dAddM_u : ∀ x y W Q, dAddM x y W Q = (match x, y with
  | .lst xs, .lst ys => xs.length + ys.length ≤ sizeLine ∧ ∀ p, W p = none → Q (.ref p) (updW W p (.lst (xs ++ ys)))
  | _, _ => False) := fun _ _ _ _ => propext Iff.rfl
theorem od_addM : OpD X (binaryOp .Add) dAddM := by
  refine ⟨_, op_cat, fun {Z I W H x y v u Qd Q} S rx ry h sv => ?_⟩
  unfold dAddM at h
  split at h
  · cases rx with
    | lst h1 h2 =>
      cases ry with
      | lst h3 h4 =>
        exact ⟨_, _, _, _, rfl, rfl, S.imm _ _ h1, S.imm _ _ h3, by rw [← h2.length, ← h4.length]; exact h.1, fun p hp => sim_lstM S (h2.append h4) sv hp h.2⟩
  · exact h.elim
end
end DL

/-! DL12: exceptions of the program's own classes: made, raised. -/
namespace DL
open PySem PySem.Spec PyProof.Rows L2
section
variable {X : Cx} {E : XK} {j : Nat} {o e : Expr} {es : List Expr} {to te : TE} {ta : TA} {f : Str} {p p' p1 p2 pos : Pos}
/-- C.__init__(self, ..) of an own exception class C without an own one -/
structure AisC (K : PySem.W.Frag) (CA : Addr) : Prop where
  ga : PySem.W.specialIn K (.ref CA) "__getattribute__" = some (some (.builtin "type.__getattribute__"))
  ty : PySem.W.typeIn K (.ref CA) = some (.type "type")
  rd : PySem.W.readsIn K CA (.type "type") = true
  iV : PySem.W.findCls K (.ref CA) (.type "type") "__init__" = some (.val (.builtin "ValueError.__init__"))
theorem pe_owninit {pl : Sem Bool} {x : Str} {CA : Addr} (hg : Gl X x) (hm : X.mg x = some (.ref CA)) (T0 : AisC X.K CA) (ha : PA X (e :: es) ta) (hdb : (x == ("__debug__" : Str)) = false := by decide)
    (hc : eval (.Call (.Attribute (.Name x p1) "__init__" p2) (e :: es) [] pos) X.env = (do
      let ov ← eval (.Name x p1) X.env
      standAt p2.atName
      let (f, first) ← holding [ov] (getMethod ov "__init__" pl)
      callWith pos f first (backTo pos (starEach (e :: es) X.env)) (backToKw pos (keywordEach [] X.env))) := by rfl)
    (he : starEach (e :: es) X.env = (false, eval e X.env) :: starEach es X.env := by rfl) (hpl : (backTo pos (starEach es X.env)).any (·.1) = false := by rfl) :
    PE X (.Call (.Attribute (.Name x p1) "__init__" p2) (e :: es) [] pos) (tVeI X.K ta) := by
  refine ⟨fun pins s σ H Q I h => ?_⟩
  refine PySem.W.methodCall_KW (ld_glob I hg hm ?_ hdb) hc
  obtain ⟨m, fr⟩ := I.fr
  refine PySem.W.method_of_cls fr I.ok.mod.kin T0.ga (PySem.W.cls_val fr I.ok.mod.kin T0.ty T0.rd T0.iV (by decide +kernel) ?_)
  show wpAny _ _ (callWith pos (Value.builtin "ValueError.__init__") [] (backTo pos (starEach (e :: es) X.env)) []) _ _ _
  refine PyProof.Rows.callWith_method1 (thn (ha.run pos pins _ σ H _ (I.tok _) h) fun us s1 ⟨vs, H1, I1, r1, a, C, ws, ev, hl, T, ea, q⟩ => ?_) he hpl
  subst ev
  cases r1 with
  | @cons _ u0 _ ur ra rw' =>
    obtain rfl : u0 = Value.ref a := ra
    have hlen : ur.length ≤ sizeLine := by
      rw [← Paired.length rw', sizeLine_eq]
      omega
    exact oinit_ok T I1 ea hlen fun s' J => ⟨.non, H1, J, rfl, q⟩
end
theorem upd3 {H : Hp} {dx a : Addr} {u v o : HO} (ne : dx ≠ a) : upd (upd (upd H dx u) a o) dx v = upd (upd H dx v) a o := by
  funext b
  by_cases h1 : b = dx
  · subst h1; rw [upd_same, upd_ne ne, upd_same]
  · by_cases h2 : b = a
    · subst h2; rw [upd_ne h1, upd_same, upd_same]
    · rw [upd_ne h1, upd_ne h2, upd_ne h1, upd_ne h2, upd_ne h1]
/-! ### what __init__ of an exception class keeps -/
/-- fields stored one after the other, the last one ahead -/
def exF (names : List Str) (vs : List V) : List (Str × V) := (names.zip vs).reverse
/-- __init__(self, v1, .., vn): the fields stored -/
def spEx (K : PySem.W.Frag) (C : Addr) (names : List Str) : Sp := fun vs H Q _ => ∃ (a : Addr) (ws : List V), vs = .ref a :: ws ∧ ws.length = names.length ∧ OexC K C ∧ H a = some (exo a C none) ∧
  ∀ dx, H dx = none → dx ≠ a → Q .non (upd (upd H dx (exd dx (exF names ws))) a (exo a C (some dx)))
/-- a class of exceptions that is made by its name and raised -/
structure Rd (P : Program) (w : World) (K : PySem.W.Frag) (mg : Str → Option Value) (base : Heap) (k : Nat) (x : Str) (C : Addr) (names : List Str) : Prop where
  ex : ∃ (f : Addr) (fd : FuncData) (ps : List Str), OexC K C ∧ PySem.W.findIn K (.ref C) "__init__" = some (some (.ref f)) ∧ PySem.W.typeIn K (.ref f) = some (.type "function") ∧ FnOk P w K mg base (L2.CX P w) k f fd ps (spEx K C names) ∧ mg x = some (.ref C) ∧ Binds K fd ps []
def tsRaise (C : Addr) (names : List Str) (ta : TAd) : TSd := fun D ρ W => ta ρ W (fun ds W1 => ds.length = names.length ∧ D.ex C (names.zip ds).reverse W1) D.ex
@[simp ↓] theorem tsRaise_u (C : Addr) (names : List Str) (ta : TAd) (D : EndsD) (ρ : DEnv) (W : Wd) : tsRaise C names ta D ρ W = ta ρ W (fun ds W1 => ds.length = names.length ∧ D.ex C (names.zip ds).reverse W1) D.ex := propext Iff.rfl
theorem RepG.rev {K : PySem.W.Frag} {I : Hp} {fs : List (Str × D)} {vs : List (Str × V)} (h : RepG K I fs vs) : RepG K I fs.reverse vs.reverse := by
  have app : ∀ {fs gs : List (Str × D)} {vs us : List (Str × V)}, RepG K I fs vs → RepG K I gs us → RepG K I (fs ++ gs) (vs ++ us) := by
    intro fs gs vs us h1 h2
    induction fs generalizing vs with
    | nil => cases h1; exact h2
    | cons a as ih => cases h1 with
      | cons r t => exact .cons r (ih t)
  induction fs generalizing vs with
  | nil => cases h; exact .nil
  | cons a as ih => cases h with
    | cons r t =>
      rw [List.reverse_cons, List.reverse_cons]
      exact app (ih t) (.cons r .nil)
theorem RepG.zip {K : PySem.W.Frag} {I : Hp} : ∀ {names : List Str} {ds : List D} {vs : List V}, RepL K I ds vs → RepG K I (names.zip ds) (names.zip vs)
  | [], _, _, _ => .nil
  | _ :: _, [], _, .nil => .nil
  | n :: ns, _, _, .cons r t => .cons r (RepG.zip t)
section
variable {X : Cx} {E : XK} {j k : Nat} {e : Expr} {es : List Expr} {tr : TAd} {x : Str} {p pos pos2 : Pos} {C : Addr} {names : List Str}
theorem ds_raise (c : Ct X E j) (tk : Takes X (fun cls d _ H => E cls d H)) (f : Rd X.prog X.w X.K X.mg X.base k x C names) (ha : DA X E (e :: es) tr) (hn : names.length ≤ 1000 := by decide) (hk : k + 1 ≤ j := by decide) (hg : Gl X x := by rfl)
    (hdb : (x == ("__debug__" : Str)) = false := by decide) (he : starEach (e :: es) X.env = (false, eval e X.env) :: starEach es X.env := by rfl) (hpl : (backTo pos (starEach es X.env)).any (·.1) = false := by rfl) :
    DS X E (.Raise (some (.Call (.Name x p) (e :: es) [] pos)) none pos2) (tsRaise C names tr) := by
  obtain ⟨fa, fd, ps, T, iC, tI, F, hm, b⟩ := f.ex
  obtain ⟨t1, p1, d1⟩ := ha.ex
  have p0 : Passes (L2.CX X.prog X.w) X (fun _ _ _ => False) := fun pins σ H s e s' I h => by
    obtain ⟨_, _, _, _, _, _, _, _, _, _, _, _, z⟩ := h
    exact z.elim
  refine ⟨_, ps_raise c.calm tk (pmk_oex T iC tI F (c.room.mono hk) b .nil p0 hg hm p1 hdb he hpl), fun {Z I W H σ ρ Dd D} S R h kk => ?_⟩
  refine d1 S R h (fun ds W1 vs I1 H1 e1 S1 r1 h1 => ?_) kk.ex
  have hl := r1.length
  refine ⟨by omega, fun a ha => ?_⟩
  rw [List.append_nil]
  refine ⟨a, vs, rfl, by omega, T, upd_same, fun dx hdx ne => ?_⟩
  have hdx1 : H1 dx = none := by rw [upd_ne ne] at hdx; exact hdx
  refine ⟨rfl, dx, exF names vs, upd_same, by rw [upd_ne ne, upd_same], hdx1, ?_⟩
  have eH : upd (del (upd (upd (upd H1 a (exo a C none)) dx (exd dx (exF names vs))) a (exo a C (some dx))) a) dx (HO.xd (exF names vs)) = upd H1 dx (.xd (exF names vs)) := by
    funext b
    by_cases hb : b = dx
    · subst hb; rw [upd_same, upd_same]
    · rw [upd_ne hb, upd_ne hb]
      by_cases hb2 : b = a
      · subst hb2; rw [del_same, ha]
      · rw [del_ne hb2, upd_ne hb2, upd_ne hb, upd_ne hb2]
  rw [eH]
  exact kk.ex C _ W1 _ _ (some dx) _ e1 (S1.lay0 hdx1 _) (RepG.rev (RepG.zip r1)) ⟨upd_same, S1.newI hdx1, S1.newZ hdx1, S1.newW hdx1⟩ h1.2
end
end DL

/-! DL13: a caught exception: its class asked, its fields read. -/
namespace DL
open PySem PySem.Spec PyProof.Rows L2
/-- isinstance(e, c), isinstance(e, (c, ..)), e the exception that the suite holds -/
def rIsX (K : PySem.W.Frag) (C a : Addr) (d : Option Addr) : List V → Hp → VK → Prop := fun xs H Q => (∀ dd, d = some dd → ∃ fs, H dd = some (.xd fs)) ∧ ∃ (c : V) (b : Bool), xs = [.ref a, c] ∧
  ((∃ cv, ClsV c cv ∧ PySem.W.kitOne K (.ref C) cv = some b) ∨ ∃ tp cs us, c = .ref tp ∧ H tp = some (.tup cs) ∧ Paired ClsV cs us ∧ PySem.W.kitAny K (.ref C) us = some b) ∧ Q (.bl b) H
theorem call_isX {X : Cx} {a C : Addr} {d : Option Addr} {oe : Obj} {pn : List (Addr × Obj)} (T : ExcC X.K C) (hz : Zc (.ref C) d oe) (hf : ∃ vs, oe.data = .fields vs) : CallR (X.suite a ((a, oe) :: pn)) (.builtin "isinstance") (rIsX X.K C a d) := by
  intro pins s σ H xs us Q I r h
  obtain ⟨hd, c, b, rfl, e, q⟩ := h
  obtain ⟨u1, u2, rfl, r1, r2⟩ := vals2 r
  cases (show u1 = Value.ref a from r1)
  obtain ⟨hget, _⟩ := I.pin (a, oe) (List.mem_append.mpr (.inl List.mem_cons_self))
  have J : ∃ od, PySem.W.InstAt s.heap a oe C od := by
    obtain ⟨vs, hv⟩ := hf
    cases d with
    | none =>
      refine ⟨none, ?_⟩
      obtain ⟨oc, od, oda, osl⟩ := oe
      obtain ⟨h1, h2⟩ := hz
      dsimp only at h1 h2 hv
      subst h1 h2 hv
      exact ⟨hget, rfl, rfl, trivial⟩
    | some dd =>
      obtain ⟨fs, ea⟩ := hd dd rfl
      have hx : ObjOk X.prog X.w H s.heap dd (.xd fs) := I.hok dd _ ea
      obtain ⟨mA, hns, hr⟩ := hx
      obtain ⟨od, ho, hl⟩ := lookIn_ns hns
      exact ⟨some od, hget, hz.1, by unfold PySem.W.notCls; rw [hv] <;> rfl, by rw [hz.2]; exact ho⟩
  obtain ⟨od, J⟩ := J
  have hcl : (PySem.W.clsIn X.K C).isSome = true := by
    obtain ⟨cd, hc, _⟩ := PySem.W.any_some T.hd
    rw [hc]; rfl
  have Z := PySem.W.kitx_exc (K := X.K) (x := a) (ox := oe) (od := od) hcl T.hg T.hk T.hs T.ha T.hn T.ht T.hm
  rcases e with ⟨cv, k, e⟩ | ⟨tp, cs, us, rfl, hT, k, e⟩
  · have e2 := k.eq r2
    subst e2
    exact PySem.W.kia_one Z I.kIn J e (fun z => nomatch z) fun tk => ⟨.bl b, H, I.tok tk, rfl, q⟩
  · cases (show u2 = Value.ref tp from r2)
    obtain ⟨_, its, rv, o, h1, h2, n, h3⟩ := (show ObjOk X.prog X.w H s.heap tp (.tup cs) from I.hok tp _ hT)
    have e3 := ClsV.all k rv
    subst e3
    obtain ⟨oc, odd, dt, sl⟩ := o
    simp only at h2 h3
    subst h2 h3
    exact PySem.W.kia_tup Z I.kIn J h1 e (fun z => nomatch z) fun tk => ⟨.bl b, H, I.tok tk, rfl, q⟩
/-- the classes that are asked for -/
inductive Xk where
  | bs | bp | ba | bt | ve
def Xk.v (C : CC) : Xk → V
  | .bs => .ref C.badStore | .bp => .ref C.badStep | .ba => .ref C.barred | .bt => .ref C.badText | .ve => .ty "ValueError"
def Xk.u (C : CC) : Xk → Value
  | .bs => .ref C.badStore | .bp => .ref C.badStep | .ba => .ref C.barred | .bt => .ref C.badText | .ve => .type "ValueError"
theorem Xk.cls (C : CC) (k : Xk) : ClsV (k.v C) (k.u C) := by cases k <;> constructor
/-- what is answered for an exception of the class at c -/
def isX (C : CC) (c : Addr) : Xk → Bool
  | .bs => decide (c = C.badStore) | .bp => decide (c = C.badStep) | .ba => decide (c = C.barred) | .bt => decide (c = C.badText) | .ve => true
structure XT (K : PySem.W.Frag) (C : CC) (c : Addr) : Prop where
  ex : ExcC K c
  xf : XfC K c
  one : ∀ k, PySem.W.kitOne K (.ref c) (k.u C) = some (isX C c k)
  nof : ∀ f ∈ (["word", "number", "rule", "at", "row"] : List Str), PySem.W.findIn K (.ref c) f = some none
theorem XT.any {K : PySem.W.Frag} {C : CC} {c : Addr} (T : XT K C c) : ∀ ks : List Xk, PySem.W.kitAny K (.ref c) (ks.map (Xk.u C)) = some (ks.any (isX C c))
  | [] => rfl
  | k :: ks => by
    rw [List.map_cons, List.any_cons]
    unfold PySem.W.kitAny
    rw [T.one k]
    cases isX C c k with
    | true => rfl
    | false => exact T.any ks
def tKs (C : CC) (ks : List Xk) : TA := fun _ H Q => Q (ks.map (Xk.v C)) H
section
variable {X : Cx} {C : CC} {e : Expr} {es : List Expr} {k : Xk} {ks : List Xk}
theorem kls_nil : PA X [] (tKs C []) := pa_nil
theorem kls_cons (h : PE X e (tC (k.v C))) (r : PA X es (tKs C ks)) (hs : starEach (e :: es) X.env = (false, eval e X.env) :: starEach es X.env := by rfl) : PA X (e :: es) (tKs C (k :: ks)) := pa_cons h r hs
variable {a c : Addr} {d : Option Addr} {oe : Obj} {pn : List (Addr × Obj)} {E : XK} {p p2 p3 pos : Pos} {n x : Str}
theorem paired_ks (C : CC) : ∀ ks : List Xk, Paired ClsV (ks.map (Xk.v C)) (ks.map (Xk.u C))
  | [] => .nil
  | k :: ks => .cons (k.cls C) (paired_ks C ks)
/-- isinstance(e, ..) -/
def tdIsX (C : CC) (c a : Addr) (d : Option Addr) (ks : List Xk) (i : Nat) : TD := fun ρ W Q _ => getS ρ i = some (.ref a) ∧ (∀ dd, d = some dd → ∃ fs, W dd = some (.xd fs)) ∧ Q (.bl (ks.any (isX C c))) W
@[simp ↓] theorem tdIsX_u (C : CC) (c a : Addr) (d : Option Addr) (ks : List Xk) (i : Nat) (ρ : DEnv) (W : Wd) (Q : QD) (E : XD) : tdIsX C c a d ks i ρ W Q E = (getS ρ i = some (.ref a) ∧ (∀ dd, d = some dd → ∃ fs, W dd = some (.xd fs)) ∧ Q (.bl (ks.any (isX C c))) W) := propext Iff.rfl
theorem xd_of {K : PySem.W.Frag} {Z I H : Hp} {W : Wd} (S : SR K Z I W H) (h : ∀ dd, d = some dd → ∃ fs, W dd = some (.xd fs)) : ∀ dd, d = some dd → ∃ fs, H dd = some (.xd fs) := fun dd e => by
  obtain ⟨fs, hw⟩ := h dd e
  obtain ⟨_, fv, hv, _⟩ := S.cell dd _ hw
  exact ⟨fv, hv⟩
theorem de_isX1 (i : Nat) (T : XT X.K C c) (hz : Zc (.ref c) d oe) (hf : ∃ vs, oe.data = .fields vs) (hm : X.mg "isinstance" = none) (hcl : PE (X.suite a ((a, oe) :: pn)) e (tC (k.v C)))
    (hN : X.N[i]? = some n := by rfl) (hv : Vis X.env.scope n := by first | exact Or.inl rfl | exact Or.inr (Or.inl rfl) | exact Or.inr (Or.inr rfl)) (hd : (n == ("__debug__" : Str)) = false := by decide) (hcd : (n == ("__classdict__" : Str)) = false := by decide) (hg : Gl X "isinstance" := by rfl)
    (hs : starEach [.Name n p2, e] X.env = (false, eval (.Name n p2) X.env) :: starEach [e] X.env := by rfl) (hs2 : starEach [e] X.env = (false, eval e X.env) :: starEach [] X.env := by rfl) (hpl : (backTo pos (starEach [e] X.env)).any (·.1) = false := by rfl) :
    DE (X.suite a ((a, oe) :: pn)) E (.Call (.Name "isinstance" p) [.Name n p2, e] [] pos) (tdIsX C c a d [k] i) := by
  refine ⟨_, pe_callB (X := X.suite a ((a, oe) :: pn)) (call_isX T.ex hz hf) hg hm bt_isinstance (pa_cons (pe_var (X := X.suite a ((a, oe) :: pn)) hN hv hd hcd) (pa_cons hcl pa_nil hs2) hs) (by decide) (by decide) hs hpl, fun {Z I W H σ ρ Qd Ed Q} S R h sv sx => ?_⟩
  obtain ⟨h1, h2, q⟩ := h
  obtain ⟨v, hv1, r⟩ := R.get h1
  cases r
  refine ⟨_, hv1, ?_⟩
  refine ⟨xd_of S h2, k.v C, _, rfl, .inl ⟨_, k.cls C, T.one k⟩, ?_⟩
  have := sv (.bl (isX C c k)) W _ I H (Same.refl I) S (.bl _) (by simpa using q)
  exact this
theorem de_isXT (i : Nat) {kk : Nat} {pt : Pos} (T : XT X.K C c) (hz : Zc (.ref c) d oe) (hf : ∃ vs, oe.data = .fields vs) (hm : X.mg "isinstance" = none) (hcl : PA (X.suite a ((a, oe) :: pn)) es (tKs C ks)) (hks : ks.length ≤ sizeLine := by simp [sizeLine])
    (hN : X.N[i]? = some n := by rfl) (hv : Vis X.env.scope n := by first | exact Or.inl rfl | exact Or.inr (Or.inl rfl) | exact Or.inr (Or.inr rfl)) (hd : (n == ("__debug__" : Str)) = false := by decide) (hcd : (n == ("__classdict__" : Str)) = false := by decide) (hg : Gl X "isinstance" := by rfl)
    (hs : starEach [.Name n p2, .Tuple es kk pt] X.env = (false, eval (.Name n p2) X.env) :: starEach [.Tuple es kk pt] X.env := by rfl) (hs2 : starEach [.Tuple es kk pt] X.env = (false, eval (.Tuple es kk pt) X.env) :: starEach [] X.env := by rfl) (hpl : (backTo pos (starEach [.Tuple es kk pt] X.env)).any (·.1) = false := by rfl) :
    DE (X.suite a ((a, oe) :: pn)) E (.Call (.Name "isinstance" p) [.Name n p2, .Tuple es kk pt] [] pos) (tdIsX C c a d ks i) := by
  refine ⟨_, pe_callB (X := X.suite a ((a, oe) :: pn)) (call_isX T.ex hz hf) hg hm bt_isinstance (pa_cons (pe_var (X := X.suite a ((a, oe) :: pn)) hN hv hd hcd) (pa_cons (pe_tup hcl) pa_nil hs2) hs) (by decide) (by decide) hs hpl, fun {Z I W H σ ρ Qd Ed Q} S R h sv sx => ?_⟩
  obtain ⟨h1, h2, q⟩ := h
  obtain ⟨v, hv1, r⟩ := R.get h1
  cases r
  refine ⟨_, hv1, ?_⟩
  refine ⟨by rw [List.length_map]; exact hks, fun tp htp => ?_⟩
  have S2 := S.lay0 htp (.tup (ks.map (Xk.v C)))
  refine ⟨xd_of S2 h2, .ref tp, _, rfl, .inr ⟨tp, _, _, rfl, upd_same, paired_ks C ks, T.any ks⟩, ?_⟩
  exact sv (.bl _) W _ I _ (Same.refl I) S2 (.bl _) q
/-- e.f -/
def tdXf (a : Addr) (d : Option Addr) (f : Str) (i : Nat) : TD := fun ρ W Q _ => getS ρ i = some (.ref a) ∧ ∃ dd fs dv, d = some dd ∧ W dd = some (.xd fs) ∧ fs.lookup f = some dv ∧ Q dv W
@[simp ↓] theorem tdXf_u (a : Addr) (d : Option Addr) (f : Str) (i : Nat) (ρ : DEnv) (W : Wd) (Q : QD) (E : XD) : tdXf a d f i ρ W Q E = (getS ρ i = some (.ref a) ∧ ∃ dd fs dv, d = some dd ∧ W dd = some (.xd fs) ∧ fs.lookup f = some dv ∧ Q dv W) := propext Iff.rfl
theorem de_xf (i : Nat) {f : Str} (T : XT X.K C c) (hno : PySem.W.findIn X.K (.ref c) f = some none) (hz : Zc (.ref c) d oe) (hf : ∃ vs, oe.data = .fields vs)
    (hN : X.N[i]? = some n := by rfl) (hv : Vis X.env.scope n := by first | exact Or.inl rfl | exact Or.inr (Or.inl rfl) | exact Or.inr (Or.inr rfl)) (hd : (n == ("__debug__" : Str)) = false := by decide) (hcd : (n == ("__classdict__" : Str)) = false := by decide)
    (hb : attributeBase (.Name n p2) f X.env (eval (.Name n p2) X.env) = eval (.Name n p2) X.env := by rfl) :
    DE (X.suite a ((a, oe) :: pn)) E (.Attribute (.Name n p2) f pos) (tdXf a d f i) := by
  refine ⟨_, pe_xf T.xf hno hz hf (pe_var (X := X.suite a ((a, oe) :: pn)) hN hv hd hcd) hb, fun {Z I W H σ ρ Qd Ed Q} S R h sv sx => ?_⟩
  obtain ⟨h1, dd, fs, dv, h2, h3, h4, q⟩ := h
  obtain ⟨v, hv1, r⟩ := R.get h1
  cases r
  obtain ⟨_, fv, hv2, rv⟩ := S.cell dd _ h3
  obtain ⟨w, hw, rw'⟩ := rv.lookup h4
  exact ⟨_, hv1, rfl, rfl, dd, fv, w, h2, hv2, hw, sv _ W _ I H (Same.refl I) S rw' q⟩
/-- the ends of a suite, the exception's dict let go -/
def dropX (i : Nat) (dd : Option Addr) (D : EndsD) : EndsD :=
  let del : Wd → Wd := fun W => match dd with
    | some a => delW W a
    | none => W
  { nx := fun ρ W => D.nx (clrS ρ i) (del W), rt := fun v W => D.rt v (del W), bk := fun ρ W => D.bk (clrS ρ i) (del W), ct := fun ρ W => D.ct (clrS ρ i) (del W), ex := fun _ _ _ => False }
/-- try: f(..) / except C as e: suite -/
def tsTry (known : Addr → Prop) (spd : SpD) (tr : TAd) (tsu : Addr → Addr → Option Addr → TSd) (i : Nat) : TSd := fun D ρ W => tr ρ W (fun ds W1 => spd ds W1 (fun _ W2 => D.nx ρ W2)
  (fun c fs W2 => known c ∧ ∀ a, W2 a = none → (fs = [] → tsu a c none (dropX i none D) (setS ρ i (.ref a)) W2) ∧
    ∀ dd, W2 dd = none → tsu a c (some dd) (dropX i (some dd) D) (setS ρ i (.ref a)) (updW W2 dd (.xd fs)))) E0d
end
end DL

/-! DL14: try: one call / except C as e. -/
namespace DL
open PySem PySem.Spec PyProof.Rows L2
def taOf (K : PySem.W.Frag) (E : XK) (td : TAd) : TA := fun σ H Q => ∃ (Z I : Hp) (W : Wd) (ρ : DEnv) (Qd : List D → Wd → Prop) (Ed : XD), SR K Z I W H ∧ EnvR K I σ ρ ∧ td ρ W Qd Ed ∧ SimA K Z I Qd Q ∧ SimX K Z I Ed E
def tsOf (K : PySem.W.Frag) (E : XK) (td : TSd) : TS := fun D σ H => ∃ (Z I : Hp) (W : Wd) (ρ : DEnv) (Dd : EndsD), SR K Z I W H ∧ EnvR K I σ ρ ∧ td Dd ρ W ∧ SimE K Z I E Dd D
section
variable {X : Cx} {E : XK} {es : List Expr} {sts : List Stmt} {ta : TAd} {td : TSd}
theorem DA.pa (h : DA X E es ta) : PA X es (taOf X.K E ta) := by
  obtain ⟨t, p, d⟩ := h.ex
  refine ⟨fun pos pins s σ H Q I q => p.run pos pins s σ H Q I ?_⟩
  obtain ⟨Z, I', W, ρ, Qd, Ed, S, R, q, sv, sx⟩ := q
  exact d S R q sv sx
theorem DSs.pss (h : DSs X E sts td) : PSs X sts (tsOf X.K E td) := by
  obtain ⟨t, p, d⟩ := h.ex
  refine ⟨fun pins s σ H Q I q => p.run pins s σ H Q I ?_⟩
  obtain ⟨Z, I', W, ρ, Dd, S, R, q, k⟩ := q
  exact d S R q k
end
theorem SR.addX {K : PySem.W.Frag} {Z I H : Hp} {W : Wd} {p : Addr} {c : Cell} (S : SR K Z I W H) (hI : I p = none) (hZ : Z p = none) (hc : CellOk K I H p c) : SR K Z I (updW W p c) H := by
  refine ⟨S.imm, fun b c' e => ?_, fun b u e => ?_⟩
  · by_cases hb : b = p
    · subst hb; rw [updW_same] at e; cases e; exact ⟨hI, hc⟩
    · rw [updW_ne hb] at e; exact S.cell b c' e
  · obtain ⟨h1, h2, h3⟩ := S.fr b u e
    have hb : b ≠ p := ne_of_none e hZ
    exact ⟨h1, h2, by rw [updW_ne hb]; exact h3⟩
section
variable {X : Cx} {E : XK} {j k i : Nat} {e : Expr} {es : List Expr} {tr : TAd} {x y n : Str} {p p2 p3 np pos pos' : Pos} {C : CC} {CA : Addr} {b₀ : Stmt} {suite : List Stmt} {spd : SpD} {known : Addr → Prop} {tsu : Addr → Addr → Option Addr → TSd}
theorem ds_try (i : Nat) (cc : Ct X E j) (tk : Takes X (fun cls d _ H => E cls d H)) (hc : Names X y (.ref CA)) (hkn : ∀ c, known c → XT X.K C c ∧ PySem.W.exmOne X.K (.ref c) (.ref CA) = some true) (f : Cd X.prog X.w X.K X.mg X.base k x spd)
    (ha : ∀ (pn : List (Addr × Obj)) (xe : Value → Shared → Prop), Ct (X.tr pn xe) L2.E0 j → DA (X.tr pn xe) L2.E0 (e :: es) tr)
    (hsu : ∀ (a : Addr) (oe : Obj) (c : Addr) (d : Option Addr) (pn : List (Addr × Obj)), XT X.K C c → Zc (.ref c) d oe → (∃ vs, oe.data = .fields vs) → DSs (X.suite a ((a, oe) :: pn)) L2.E0 (b₀ :: suite) (tsu a c d))
    (hs : X.stack = X.env :: X.outer := by rfl) (hfr : X.env.frame = some X.env.locals := by rfl) (hi : X.N[i]? = some n := by rfl) (hln : X.env.kindOf n = some .local := by rfl) (hk : k ≤ j := by decide) (hg : Gl X x := by rfl)
    (hdb : (x == ("__debug__" : Str)) = false := by decide) (he : starEach (e :: es) X.env = (false, eval e X.env) :: starEach es X.env := by rfl) (hpl : (backTo p2 (starEach es X.env)).any (·.1) = false := by rfl)
    (hsw : swapsWith (.Call (.Name x p) (e :: es) [] p2) none p3.line X.env = pure false := by rfl) :
    DS X E (.Try [.Expr (.Call (.Name x p) (e :: es) [] p2) p3] [.ExceptHandler (some (.Name y np)) (some n) (b₀ :: suite) pos'] [] [] pos) (tsTry known spd tr tsu i) := by
  obtain ⟨fa, fd, ps, F, hm, kp, b⟩ := f.ex
  have hb : ∀ (W : WX) (pn : List (Addr × Obj)) (xe : Value → Shared → Prop), Takes (X.tr pn xe) W → PassesOwn (model X.prog X.w) X.A X.env xe → PSs (X.tr pn xe) [.Expr (.Call (.Name x p) (e :: es) [] p2) p3] (tDrop (tCallS (liftS X.K spd) (WE W) (taOf X.K L2.E0 tr))) := fun W pn xe tkW own => by
    have p1 := (ha pn xe ⟨cc.calm, own, passL, cc.room, cc.nd⟩).pa
    exact pss_one (ps_expr (X := X.tr pn xe) (pe_callS (X := X.tr pn xe) F (cc.room.mono hk) hg hm kp b (fun σ => passAt tkW σ) p1 hdb he hpl) hsw)
  have hsu' : ∀ (a : Addr) (oe : Obj) (cls : Value) (d : Option Addr) (pn : List (Addr × Obj)), Zc cls d oe → (∃ vs, oe.data = .fields vs) → PSs (X.suite a ((a, oe) :: pn)) (b₀ :: suite) (fun D σ H => ∃ c, cls = .ref c ∧ known c ∧ tsOf X.K L2.E0 (tsu a c d) D σ H) := fun a oe cls d pn hz hfl => by
    refine ⟨fun pins s σ H D I h => ?_⟩
    obtain ⟨c, rfl, hkc, h⟩ := h
    exact ((hsu a oe c d pn (hkn c hkc).1 hz hfl).pss).run pins s σ H D I h
  refine ⟨_, ps_try_as (ts := fun a cls d D σ H => ∃ c, cls = .ref c ∧ known c ∧ tsOf X.K L2.E0 (tsu a c d) D σ H) hs hfr cc.nd hi hln hc tk hb hsu', fun {Z I W H σ ρ Dd D} S R h kk => ?_⟩
  refine ⟨Z, I, W, ρ, _, E0d, S, R, h, fun ds W1 vs I1 H1 e1 S1 r1 h1 => ?_, simX0⟩
  refine ⟨Z, I1, W1, ds, _, _, S1, r1, h1, fun v W2 u I2 H2 e2 S2 r2 q => ?_, fun c fs W2 I2 H2 dx fv e2 S2 rG ex hEd => ?_⟩
  · exact kk.nx ρ W2 σ I2 H2 (e1.trans e2) S2 (R.mono (e1.trans e2)) q
  · obtain ⟨hkc, hx⟩ := hEd
    refine ⟨true, (hkn c hkc).2, fun _ a ha => ⟨c, rfl, hkc, ?_⟩, fun z => by cases z⟩
    obtain ⟨h0, hS⟩ := hx a (S2.newW ha)
    have R2 := (R.mono (e1.trans e2)).set (.ref a) i
    have k2 := kk.mono (e1.trans e2)
    cases dx with
    | none =>
      have : fv = [] := ex
      subst this
      cases rG
      exact ⟨Z, I2, W2, _, _, S2, R2, h0 rfl, ⟨fun ρ' W' σ' I' H' e S' R' q => k2.nx _ W' _ I' H' e S' (R'.clr i) q, fun d W' v I' H' e S' r q => k2.rt d W' v I' H' e S' r q, fun ρ' W' σ' I' H' e S' R' q => k2.bk _ W' _ I' H' e S' (R'.clr i) q, fun ρ' W' σ' I' H' e S' R' q => k2.ct _ W' _ I' H' e S' (R'.clr i) q, fun _ _ _ _ _ _ _ _ _ _ _ q => q.elim⟩⟩
    | some dd =>
      obtain ⟨x1, x2, x3, x4⟩ := ex
      exact ⟨Z, I2, updW W2 dd (.xd fs), _, _, S2.addX x2 x3 ⟨fv, x1, rG⟩, R2, hS dd x4, ⟨fun ρ' W' σ' I' H' e S' R' q => k2.nx _ _ _ I' H' e S'.drop (R'.clr i) q, fun d W' v I' H' e S' r q => k2.rt d _ v I' H' e S'.drop r q, fun ρ' W' σ' I' H' e S' R' q => k2.bk _ _ _ I' H' e S'.drop (R'.clr i) q, fun ρ' W' σ' I' H' e S' R' q => k2.ct _ _ _ I' H' e S'.drop (R'.clr i) q, fun _ _ _ _ _ _ _ _ _ _ _ q => q.elim⟩⟩
end
section
variable {X : Cx} {E : XK} {e : Expr} {te : TD} {pos : Pos}
/-- a store where there is no Ct (in an except suite) -/
theorem ds_setN (i : Nat) {x : Str} {pos' : Pos} (hnd : X.N.Nodup) (he : DE X E e te) (hi : X.N[i]? = some x := by rfl) (hx : Loc X.env.scope x := by first | exact Or.inl rfl | exact Or.inr rfl) (hs : swapsWith e (some (.Name x pos')) pos.line X.env = pure false := by rfl)
    (hf : X.fn x = true ∨ X.env.scope.names.lookup x = some .local := by first | exact .inl rfl | exact .inr rfl | assumption) : DS X E (.Assign [.Name x pos'] e pos) (tsAsg te (.name i)) := by
  obtain ⟨t1, p1, d1⟩ := he.ex
  exact ⟨_, ps_set hnd hi hx p1 hs hf, den_asg (g := .name i) d1⟩
end
end DL

/-! DL15: an exception class without own __init__, raised. -/
namespace DL
open PySem PySem.Spec PyProof.Rows L2
structure Rd0 (K : PySem.W.Frag) (mg : Str → Option Value) (x : Str) (C : Addr) : Prop where
  ei : PySem.W.excIn K C PySem.HandSPX.veTail "ValueError.__new__" = true
  mg : mg x = some (.ref C)
  kC : PySem.W.keepIn K (.ref C) = true
  exC : PySem.W.subIn K (.ref C) (.type "BaseException") = some true
  tyC : PySem.W.typeIn K (.ref C) = some (.type "type")
def tsRaise0 (C : Addr) (ta : TAd) : TSd := fun D ρ W => ta ρ W (fun ds W1 => ds.length ≤ sizeLine ∧ D.ex C [] W1) D.ex
@[simp ↓] theorem tsRaise0_u (C : Addr) (ta : TAd) (D : EndsD) (ρ : DEnv) (W : Wd) : tsRaise0 C ta D ρ W = ta ρ W (fun ds W1 => ds.length ≤ sizeLine ∧ D.ex C [] W1) D.ex := propext Iff.rfl
section
variable {X : Cx} {E : XK} {j k : Nat} {e : Expr} {es : List Expr} {tr : TAd} {x : Str} {p pos pos2 : Pos} {C : Addr}
theorem ds_raise0 (c : Ct X E j) (tk : Takes X (fun cls d _ H => E cls d H)) (f : Rd0 X.K X.mg x C) (ha : DA X E (e :: es) tr) (hg : Gl X x := by rfl)
    (hdb : (x == ("__debug__" : Str)) = false := by decide) (he : starEach (e :: es) X.env = (false, eval e X.env) :: starEach es X.env := by rfl) (hpl : (backTo pos (starEach es X.env)).any (·.1) = false := by rfl) :
    DS X E (.Raise (some (.Call (.Name x p) (e :: es) [] pos)) none pos2) (tsRaise0 C tr) := by
  obtain ⟨t1, p1, d1⟩ := ha.ex
  refine ⟨_, ps_raise c.calm tk (pmk_ownA PySem.F.excBase_ValueError f.ei f.mg f.kC (raises_own f.exC f.tyC) hg p1 hdb he hpl), fun {Z I W H σ ρ Dd D} S R h kk => ?_⟩
  refine d1 S R h (fun ds W1 vs I1 H1 e1 S1 r1 h1 => ?_) kk.ex
  exact ⟨by rw [← r1.length]; exact h1.1, kk.ex C [] W1 I1 H1 none [] e1 S1 .nil rfl h1.2⟩
end
end DL

/-! DL16: cells let go at a def's end; == that looks into cells in lists; repeated tuples. -/
namespace DL
open PySem PySem.Spec PyProof.Rows L2
/-- fewer cells -/
def Sub (W' W : Wd) : Prop := ∀ a, W' a = none ∨ W' a = W a
theorem Sub.refl (W : Wd) : Sub W W := fun _ => .inr rfl
theorem SR.sub {K : PySem.W.Frag} {Z I H : Hp} {W W' : Wd} (S : SR K Z I W H) (h : Sub W' W) : SR K Z I W' H := by
  refine ⟨S.imm, fun b c e => ?_, fun b u e => ?_⟩
  · rcases h b with z | z
    · rw [z] at e; cases e
    · rw [z] at e; exact S.cell b c e
  · obtain ⟨h1, h2, h3⟩ := S.fr b u e
    refine ⟨h1, h2, ?_⟩
    rcases h b with z | z
    · exact z
    · rw [z]; exact h3
/-- a wish that some cells may be let go for -/
def Dr (Q : Wd → Prop) (W : Wd) : Prop := ∃ W', Sub W' W ∧ Q W'
theorem Dr.of {Q : Wd → Prop} {W W' : Wd} (h : Sub W' W) (q : Q W') : Dr Q W := ⟨W', h, q⟩
theorem Dr.self {Q : Wd → Prop} {W : Wd} (q : Q W) : Dr Q W := ⟨W, Sub.refl W, q⟩
theorem Sub.upd {W' W : Wd} {a : Addr} {c : Cell} (h : Sub W' W) (ha : W' a = none) : Sub W' (updW W a c) := fun b => by
  by_cases e : b = a
  · subst e; exact .inl ha
  · rw [updW_ne e]; exact h b
theorem Sub.del {W' W : Wd} {a : Addr} (h : Sub W' W) (ha : W' a = none) : Sub W' (delW W a) := fun b => by
  by_cases e : b = a
  · subst e; exact .inl ha
  · rw [delW_ne e]; exact h b
theorem ExcAt.sub {Z I H : Hp} {W W' : Wd} {dx : Option Addr} {fv : List (Str × V)} (h : ExcAt Z I H W dx fv) (s : Sub W' W) : ExcAt Z I H W' dx fv := by
  cases dx with
  | none => exact h
  | some d =>
    obtain ⟨h1, h2, h3, h4⟩ := h
    refine ⟨h1, h2, h3, ?_⟩
    rcases s d with z | z
    · exact z
    · rw [z]; exact h4
section
variable {P : Program} {w : World} {K : PySem.W.Frag} {mg : Str → Option Value} {base : Heap}
/-- a def by its body's derivation and its reading: what it leaves of cells that nobody asks for is let go -/
theorem fn_qd {x qual : Str} {st : Stmt} {f : Addr} {fd : FuncData} {N ps : List Str} {k n : Nat} {spd : SpD} {td : TSd} (F : Fun K x qual st f fd) (S : FnScope N ps (defScope st)) (hn : N.length = n) (len : ∀ ds W Q E, spd ds W Q E → ds.length = ps.length)
    (hq : ∀ ds W Qd Ed, spd ds W Qd Ed → td { nx := fun _ W' => Dr (Qd .non) W', rt := fun d W' => Dr (Qd d) W', ex := fun c fs W' => Dr (Ed c fs) W' } (startN n ds) W)
    (hbody : ∀ (cdv : Value) (A : Around) (outer : List Env) (s : Shared) (H : Hp) (E : XK), Ct (cxOf (L2.CX P w) P w K mg base N qual (defScope st) f cdv A outer s H E) E k →
      DSs (cxOf (L2.CX P w) P w K mg base N qual (defScope st) f cdv A outer s H E) E (defBody st) td) :
    FnOk P w K mg base (L2.CX P w) (k + 1) f fd ps (liftS K spd) := by
  refine F.okX S (fun vs H Q E h => ?_) (fun cdv A outer s H vs Q E hr h => ?_)
  · obtain ⟨Z, I, W, ds, Qd, Ed, _, r, h, _⟩ := h
    rw [← r.length]; exact len _ _ _ _ h
  · obtain ⟨Z, I, W, ds, Qd, Ed, S1, r, h, sv, sx⟩ := h
    obtain ⟨t, p, d⟩ := (hbody cdv A outer s H E (ct_of S.nd hr)).ex
    have hl : vs.length ≤ N.length := by
      have h1 := len _ _ _ _ h
      have h2 := congrArg List.length S.pre
      rw [List.length_take] at h2
      rw [← r.length]; omega
    have hq' := hq ds W Qd Ed h
    rw [← hn, ← startS_eq] at hq'
    exact ⟨t, p, d S1 (EnvR.start r hl) hq' ⟨fun ρ W' σ I' H' e S' R' ⟨W2, s2, q⟩ => sv _ W2 _ I' H' e (S'.sub s2) .non q, fun v W' u I' H' e S' r' ⟨W2, s2, q⟩ => sv _ W2 _ I' H' e (S'.sub s2) r' q, fun _ _ _ _ _ _ _ _ q => q.elim, fun _ _ _ _ _ _ _ _ q => q.elim, fun c fs W' I' H' dx fv e S' rG ex ⟨W2, s2, q⟩ => sx c fs W2 I' H' dx fv e (S'.sub s2) rG (ex.sub s2) q⟩⟩
end
/-! ### == that looks into cells in lists -/
def deepW : Nat → Wd → D → D
  | 0, _, d => d
  | n + 1, W, .ref a => match W a with
    | some (.lst xs) => .lst (xs.map (deepW n W))
    | _ => .ref a
  | n + 1, W, .tup xs => .tup (xs.map (deepW n W))
  | n + 1, W, .lst xs => .lst (xs.map (deepW n W))
  | _ + 1, _, d => d
section
variable {K : PySem.W.Frag} {Z I H : Hp} {W : Wd}
theorem dpAll_map (S : SR K Z I W H) {f : D → D} {m : Nat} (hf : ∀ d v, Rep K I d v → okD m (f d) = true → Dp K H v (toPy (f d))) : ∀ (ds : List D) (vs : List V), RepL K I ds vs → okL m (ds.map f) = true → DpAll K H vs (toPyL (ds.map f))
  | [], _, r, _ => by cases r; exact .nil
  | d :: ds, _, r, h => by
    simp only [List.map_cons, okL, Bool.and_eq_true] at h
    cases r with
    | cons h1 h2 => exact .cons (hf _ _ h1 h.1) (dpAll_map S hf ds _ h2 h.2)
theorem dp_deep (S : SR K Z I W H) : ∀ (n m : Nat) (d : D) (v : V), Rep K I d v → okD m (deepW n W d) = true → Dp K H v (toPy (deepW n W d))
  | 0, m, d, v, r, h => dp_of S.imm m d v r h
  | n + 1, m, .non, v, r, h => dp_of S.imm m _ v r h
  | n + 1, m, .bl _, v, r, h => dp_of S.imm m _ v r h
  | n + 1, m, .int _, v, r, h => dp_of S.imm m _ v r h
  | n + 1, m, .str _, v, r, h => dp_of S.imm m _ v r h
  | n + 1, 0, .tup xs, v, r, h => by simp [deepW, okD] at h
  | n + 1, m + 1, .tup xs, v, r, h => by
    cases r with
    | tup h1 h2 => exact .tup (sqT_same S.imm h1) (dpAll_map S (fun d v => dp_deep S n m d v) xs _ h2 (by simpa [deepW, okD] using h))
  | n + 1, 0, .lst xs, v, r, h => by simp [deepW, okD] at h
  | n + 1, m + 1, .lst xs, v, r, h => by
    cases r with
    | lst h1 h2 => exact .lst (.inl (.inl (S.imm _ _ h1))) (dpAll_map S (fun d v => dp_deep S n m d v) xs _ h2 (by simpa [deepW, okD] using h))
  | n + 1, m, .dk _, v, r, h => by cases m <;> simp [deepW, okD] at h
  | n + 1, m, .ins _ _, v, r, h => by cases m <;> simp [deepW, okD] at h
  | n + 1, m, .scr _, v, r, h => by cases m <;> simp [deepW, okD] at h
  | n + 1, m, .dn _ _, v, r, h => by cases m <;> simp [deepW, okD] at h
  | n + 1, m, .ref a, v, r, h => by
    cases r
    cases hx : W a with
    | none => cases m <;> simp [deepW, hx, okD] at h
    | some c =>
      cases c with
      | lst xs =>
        have e : deepW (n + 1) W (.ref a) = .lst (xs.map (deepW n W)) := by simp [deepW, hx]
        rw [e] at h ⊢
        obtain ⟨_, vs, hv, rv⟩ := S.cell a _ hx
        cases m with
        | zero => simp [okD] at h
        | succ m => exact .lst (.inl (.inl hv)) (dpAll_map S (fun d v => dp_deep S n m d v) xs _ rv (by simpa [okD] using h))
      | _ => cases m <;> simp [deepW, hx, okD] at h
end
theorem deep_map {n m : Nat} {W : Wd} (h : ∀ d, okD m d = true → deepW n W d = d) : ∀ xs : List D, okL m xs = true → xs.map (deepW n W) = xs
  | [], _ => rfl
  | x :: xs, e => by
    simp only [okL, Bool.and_eq_true] at e
    rw [List.map_cons, h x e.1, deep_map h xs e.2]
/-- data without cells are read as they are -/
theorem deepW_ok {W : Wd} : ∀ (n m : Nat) (d : D), okD m d = true → deepW n W d = d
  | 0, _, _, _ => rfl
  | n + 1, _, .non, _ => rfl
  | n + 1, _, .bl _, _ => rfl
  | n + 1, _, .int _, _ => rfl
  | n + 1, _, .str _, _ => rfl
  | n + 1, 0, .tup _, h => by simp [okD] at h
  | n + 1, m + 1, .tup xs, h => by
    rw [deepW, deep_map (fun d => deepW_ok n m d) xs (by simpa [okD] using h)]
  | n + 1, 0, .lst _, h => by simp [okD] at h
  | n + 1, m + 1, .lst xs, h => by
    rw [deepW, deep_map (fun d => deepW_ok n m d) xs (by simpa [okD] using h)]
  | n + 1, m, .dk _, h => by cases m <;> simp [okD] at h
  | n + 1, m, .ins _ _, h => by cases m <;> simp [okD] at h
  | n + 1, m, .scr _, h => by cases m <;> simp [okD] at h
  | n + 1, m, .ref _, h => by cases m <;> simp [okD] at h
  | n + 1, m, .dn _ _, h => by cases m <;> simp [okD] at h
theorem deepW_ref {n m : Nat} {W : Wd} {a : Addr} {xs : List D} (h : W a = some (.lst xs)) (ho : okL m xs = true) : deepW (n + 1) W (.ref a) = .lst xs := by
  rw [deepW, h]
  show D.lst (xs.map (deepW n W)) = _
  rw [deep_map (fun d => deepW_ok n m d) xs ho]
def dEqV (n : Nat) : R2d := fun x y W Q => (okD 64 (deepW n W x) = true ∧ okD 64 (deepW n W y) = true) ∧ Q (.bl (eqD (deepW n W x) (deepW n W y))) W
@[simp ↓] theorem dEqV_u (n : Nat) : ∀ x y W Q, dEqV n x y W Q = ((okD 64 (deepW n W x) = true ∧ okD 64 (deepW n W y) = true) ∧ Q (.bl (eqD (deepW n W x) (deepW n W y))) W) := fun _ _ _ _ => propext Iff.rfl
def dNeV (n : Nat) : R2d := fun x y W Q => (okD 64 (deepW n W x) = true ∧ okD 64 (deepW n W y) = true) ∧ Q (.bl (!eqD (deepW n W x) (deepW n W y))) W
@[simp ↓] theorem dNeV_u (n : Nat) : ∀ x y W Q, dNeV n x y W Q = ((okD 64 (deepW n W x) = true ∧ okD 64 (deepW n W y) = true) ∧ Q (.bl (!eqD (deepW n W x) (deepW n W y))) W) := fun _ _ _ _ => propext Iff.rfl
section
variable {X : Cx} {E : XK} {j : Nat}
theorem od_eqV (n : Nat) (hu : X.A.units + 64 < cLine) : OpD X (compareOp .Eq) (dEqV n) := by
  refine ⟨_, op_eqD hu, fun {Z I W H x y v u Qd Q} S rx ry h sv => ?_⟩
  obtain ⟨⟨h1, h2⟩, q⟩ := h
  exact ⟨_, _, dp_deep S n 64 _ _ rx h1, dp_deep S n 64 _ _ ry h2, okD_shaped h1, okD_shaped h2, sv _ W _ I H (Same.refl I) S (.bl _) q⟩
theorem od_neV (n : Nat) (hu : X.A.units + 64 < cLine) : OpD X (compareOp .NotEq) (dNeV n) := by
  refine ⟨_, op_neD hu, fun {Z I W H x y v u Qd Q} S rx ry h sv => ?_⟩
  obtain ⟨⟨h1, h2⟩, q⟩ := h
  exact ⟨_, _, dp_deep S n 64 _ _ rx h1, dp_deep S n 64 _ _ ry h2, okD_shaped h1, okD_shaped h2, sv _ W _ I H (Same.refl I) S (.bl _) q⟩
@[simp ↓] theorem tsTry_u (known : Addr → Prop) (spd : SpD) (tr : TAd) (tsu : Addr → Addr → Option Addr → TSd) (i : Nat) (D : EndsD) (ρ : DEnv) (W : Wd) : tsTry known spd tr tsu i D ρ W = tr ρ W (fun ds W1 => spd ds W1 (fun _ W2 => D.nx ρ W2)
  (fun c fs W2 => known c ∧ ∀ a, W2 a = none → (fs = [] → tsu a c none (dropX i none D) (setS ρ i (.ref a)) W2) ∧
    ∀ dd, W2 dd = none → tsu a c (some dd) (dropX i (some dd) D) (setS ρ i (.ref a)) (updW W2 dd (.xd fs)))) E0d := propext Iff.rfl
/-! ### repeated tuples -/
def dMulT : R2d := fun x y W Q => match x, y with
  | .tup xs, .int k => (xs ≠ [] ∧ 2 ≤ k ∧ k ≤ 1000 ∧ xs.length ≤ 1000) ∧ Q (.tup (List.replicate k.toNat xs).flatten) W
  | _, _ => False
@[simp ↓] theorem dMulT_u : ∀ x y W Q, dMulT x y W Q = (match x, y with
  | .tup xs, .int k => (xs ≠ [] ∧ 2 ≤ k ∧ k ≤ 1000 ∧ xs.length ≤ 1000) ∧ Q (.tup (List.replicate k.toNat xs).flatten) W
  | _, _ => False) := fun _ _ _ _ => propext Iff.rfl
theorem od_mulT : OpD X (binaryOp .Mult) dMulT := by
  refine ⟨_, op_repT, fun {Z I W H x y v u Qd Q} S rx ry h sv => ?_⟩
  unfold dMulT at h
  split at h
  · cases ry
    cases rx with
    | @tup a vs ds h1 h2 =>
      obtain ⟨⟨k0, k1, k2, k3⟩, q⟩ := h
      refine ⟨_, _, vs, rfl, rfl, sqT_same S.imm h1, ?_, by omega, by omega, by rw [← h2.length]; exact k3, fun p hp => sim_tup S (h2.replicate _) sv hp q⟩
      rintro rfl
      cases h2
      exact k0 rfl
  · exact h.elim
/-! ### lists added, cells among them -/
theorem lst_view {K : PySem.W.Frag} {Z I H : Hp} {W : Wd} {x : D} {v : V} {xs : List D} (S : SR K Z I W H) (r : Rep K I x v) (e : viewW W x = .lst xs) : ∃ a vs, v = .ref a ∧ H a = some (.lst vs) ∧ RepL K I xs vs := by
  cases x with
  | ref a =>
    cases r
    cases hx : W a with
    | none => simp [viewW, hx] at e
    | some c =>
      cases c with
      | lst ys =>
        have e' : viewW W (.ref a) = .lst ys := by simp [viewW, hx]
        rw [e'] at e; cases e
        obtain ⟨_, vs, hv, rv⟩ := S.cell a _ hx
        exact ⟨a, vs, rfl, hv, rv⟩
      | _ => simp [viewW, hx] at e
  | lst ys =>
    have e' : viewW W (.lst ys) = .lst ys := rfl
    rw [e'] at e; cases e
    cases r with
    | lst h1 h2 => exact ⟨_, _, rfl, S.imm _ _ h1, h2⟩
  | _ => simp [viewW] at e
@[simp] theorem viewW_us {W : Wd} {p : Addr} {xs : List D} : viewW (updW W p (.lst xs)) (.ref p) = .lst xs := by simp [viewW, updW_same]
def dAddVM : R2d := fun x y W Q => match viewW W x, viewW W y with
  | .lst xs, .lst ys => xs.length + ys.length ≤ sizeLine ∧ ∀ p, W p = none → Q (.ref p) (updW W p (.lst (xs ++ ys)))
  | _, _ => False
@[simp ↓] theorem dAddVM_u : ∀ x y W Q, dAddVM x y W Q = (match viewW W x, viewW W y with
  | .lst xs, .lst ys => xs.length + ys.length ≤ sizeLine ∧ ∀ p, W p = none → Q (.ref p) (updW W p (.lst (xs ++ ys)))
  | _, _ => False) := fun _ _ _ _ => propext Iff.rfl
theorem od_addVM : OpD X (binaryOp .Add) dAddVM := by
  refine ⟨_, op_cat, fun {Z I W H x y v u Qd Q} S rx ry h sv => ?_⟩
  unfold dAddVM at h
  split at h
  · rename_i e1 e2
    obtain ⟨a, vs, rfl, h1, h2⟩ := lst_view S rx e1
    obtain ⟨b, us, rfl, h3, h4⟩ := lst_view S ry e2
    exact ⟨_, _, _, _, rfl, rfl, h1, h3, by rw [← h2.length, ← h4.length]; exact h.1, fun p hp => sim_lstM S (h2.append h4) sv hp h.2⟩
  · exact h.elim
def dAddV : R2d := fun x y W Q => match viewW W x, viewW W y with
  | .lst xs, .lst ys => xs.length + ys.length ≤ sizeLine ∧ Q (.lst (xs ++ ys)) W
  | _, _ => False
@[simp ↓] theorem dAddV_u : ∀ x y W Q, dAddV x y W Q = (match viewW W x, viewW W y with
  | .lst xs, .lst ys => xs.length + ys.length ≤ sizeLine ∧ Q (.lst (xs ++ ys)) W
  | _, _ => False) := fun _ _ _ _ => propext Iff.rfl
theorem od_addV : OpD X (binaryOp .Add) dAddV := by
  refine ⟨_, op_cat, fun {Z I W H x y v u Qd Q} S rx ry h sv => ?_⟩
  unfold dAddV at h
  split at h
  · rename_i e1 e2
    obtain ⟨a, vs, rfl, h1, h2⟩ := lst_view S rx e1
    obtain ⟨b, us, rfl, h3, h4⟩ := lst_view S ry e2
    exact ⟨_, _, _, _, rfl, rfl, h1, h3, by rw [← h2.length, ← h4.length]; exact h.1, fun p hp => sim_lst S (h2.append h4) sv hp h.2⟩
  · exact h.elim
end
end DL

/-! DL17: what must be looked up of the exceptions' classes. -/
namespace DL
open PySem PySem.Spec PyProof.Rows L2
theorem kit_self {K : PySem.W.Frag} {c : Addr} : PySem.W.kitOne K (.ref c) (.ref c) = some true := by
  unfold PySem.W.kitOne
  rw [if_pos]
  exact beq_self_eq_true _
theorem kit_ref {K : PySem.W.Frag} {c C : Addr} {b : Bool} (ne : c ≠ C) (hd : PySem.W.hasDictIn K C = true) (ht : PySem.W.typeIn K (.ref C) = some (.type "type")) (hs : PySem.W.subIn K (.ref c) (.ref C) = some b) : PySem.W.kitOne K (.ref c) (.ref C) = some b := by
  unfold PySem.W.kitOne
  rw [if_neg (by intro e; exact ne (by have := eq_of_beq e; injection this))]
  obtain ⟨cd, hc, _⟩ := PySem.W.any_some hd
  have e2 : ((PySem.W.clsIn K C).isSome && PySem.W.typeIn K (.ref C) == some (.type "type")) = true := by rw [hc, ht] <;> rfl
  show (if ((PySem.W.clsIn K C).isSome && PySem.W.typeIn K (.ref C) == some (.type "type")) = true then PySem.W.subIn K (.ref c) (.ref C) else none) = some b
  rw [if_pos e2, hs]
theorem kit_ve {K : PySem.W.Frag} {c : Addr} (hs : PySem.W.subIn K (.ref c) (.type "ValueError") = some true) : PySem.W.kitOne K (.ref c) (.type "ValueError") = some true := by
  unfold PySem.W.kitOne
  rw [if_neg (by intro e; have := eq_of_beq e; cases this)]
  show (if PySem.W.kitMeta "ValueError" = true then PySem.W.subIn K (.ref c) (.type "ValueError") else none) = some true
  rw [if_pos (by decide), hs]
structure ExF (K : PySem.W.Frag) (C : CC) (c : Addr) : Prop where
  ex : ExcC K c
  xf : XfC K c
  ty : PySem.W.typeIn K (.ref c) = some (.type "type")
  sv : PySem.W.subIn K (.ref c) (.type "ValueError") = some true
  sa : PySem.W.subIn K (.ref c) (.ref C.ais) = some true
  nof : ∀ f ∈ (["word", "number", "rule", "at", "row"] : List Str), PySem.W.findIn K (.ref c) f = some none
structure ExS (K : PySem.W.Frag) (C : CC) : Prop where
  e1 : ExF K C C.badStore
  e2 : ExF K C C.badStep
  e3 : ExF K C C.barred
  e4 : ExF K C C.badText
  dis : C.Ok
  s12 : PySem.W.subIn K (.ref C.badStore) (.ref C.badStep) = some false
  s13 : PySem.W.subIn K (.ref C.badStore) (.ref C.barred) = some false
  s14 : PySem.W.subIn K (.ref C.badStore) (.ref C.badText) = some false
  s21 : PySem.W.subIn K (.ref C.badStep) (.ref C.badStore) = some false
  s23 : PySem.W.subIn K (.ref C.badStep) (.ref C.barred) = some false
  s24 : PySem.W.subIn K (.ref C.badStep) (.ref C.badText) = some false
  s31 : PySem.W.subIn K (.ref C.barred) (.ref C.badStore) = some false
  s32 : PySem.W.subIn K (.ref C.barred) (.ref C.badStep) = some false
  s34 : PySem.W.subIn K (.ref C.barred) (.ref C.badText) = some false
  s41 : PySem.W.subIn K (.ref C.badText) (.ref C.badStore) = some false
  s42 : PySem.W.subIn K (.ref C.badText) (.ref C.badStep) = some false
  s43 : PySem.W.subIn K (.ref C.badText) (.ref C.barred) = some false
  ab : PySem.W.subIn K (.ref C.ais) (.type "BaseException") = some true
  ad : PySem.W.hasDictIn K C.ais = true
  at_ : PySem.W.typeIn K (.ref C.ais) = some (.type "type")
theorem ExS.kn {K : PySem.W.Frag} {C : CC} (S : ExS K C) : ∀ c, C.known c → XT K C c ∧ PySem.W.exmOne K (.ref c) (.ref C.ais) = some true := by
  obtain ⟨n1, n2, n3, n4, n5, n6⟩ := S.dis
  have h1 := S.e1.ex.hd
  have h2 := S.e2.ex.hd
  have h3 := S.e3.ex.hd
  have h4 := S.e4.ex.hd
  have t1 := S.e1.ty
  have t2 := S.e2.ty
  have t3 := S.e3.ty
  have t4 := S.e4.ty
  rintro c (rfl | rfl | rfl | rfl)
  · refine ⟨⟨S.e1.ex, S.e1.xf, fun k => ?_, S.e1.nof⟩, PySem.W.exm_ref S.ab S.ad S.at_ S.e1.sa⟩
    cases k <;> simp only [Xk.u, isX]
    · exact kit_self
    · rw [decide_eq_false n1]; exact kit_ref n1 h2 t2 S.s12
    · rw [decide_eq_false n2]; exact kit_ref n2 h3 t3 S.s13
    · rw [decide_eq_false n3]; exact kit_ref n3 h4 t4 S.s14
    · exact kit_ve S.e1.sv
  · refine ⟨⟨S.e2.ex, S.e2.xf, fun k => ?_, S.e2.nof⟩, PySem.W.exm_ref S.ab S.ad S.at_ S.e2.sa⟩
    cases k <;> simp only [Xk.u, isX]
    · rw [decide_eq_false (Ne.symm n1)]; exact kit_ref (Ne.symm n1) h1 t1 S.s21
    · exact kit_self
    · rw [decide_eq_false n4]; exact kit_ref n4 h3 t3 S.s23
    · rw [decide_eq_false n5]; exact kit_ref n5 h4 t4 S.s24
    · exact kit_ve S.e2.sv
  · refine ⟨⟨S.e3.ex, S.e3.xf, fun k => ?_, S.e3.nof⟩, PySem.W.exm_ref S.ab S.ad S.at_ S.e3.sa⟩
    cases k <;> simp only [Xk.u, isX]
    · rw [decide_eq_false (Ne.symm n2)]; exact kit_ref (Ne.symm n2) h1 t1 S.s31
    · rw [decide_eq_false (Ne.symm n4)]; exact kit_ref (Ne.symm n4) h2 t2 S.s32
    · exact kit_self
    · rw [decide_eq_false n6]; exact kit_ref n6 h4 t4 S.s34
    · exact kit_ve S.e3.sv
  · refine ⟨⟨S.e4.ex, S.e4.xf, fun k => ?_, S.e4.nof⟩, PySem.W.exm_ref S.ab S.ad S.at_ S.e4.sa⟩
    cases k <;> simp only [Xk.u, isX]
    · rw [decide_eq_false (Ne.symm n3)]; exact kit_ref (Ne.symm n3) h1 t1 S.s41
    · rw [decide_eq_false (Ne.symm n5)]; exact kit_ref (Ne.symm n5) h2 t2 S.s42
    · rw [decide_eq_false (Ne.symm n6)]; exact kit_ref (Ne.symm n6) h3 t3 S.s43
    · exact kit_self
    · exact kit_ve S.e4.sv
theorem nof5 {K : PySem.W.Frag} {c : Addr} (h1 : PySem.W.findIn K (.ref c) "word" = some none) (h2 : PySem.W.findIn K (.ref c) "number" = some none) (h3 : PySem.W.findIn K (.ref c) "rule" = some none) (h4 : PySem.W.findIn K (.ref c) "at" = some none) (h5 : PySem.W.findIn K (.ref c) "row" = some none) :
    ∀ f ∈ (["word", "number", "rule", "at", "row"] : List Str), PySem.W.findIn K (.ref c) f = some none := by
  intro f hf
  simp only [List.mem_cons, List.not_mem_nil, or_false] at hf
  rcases hf with rfl | rfl | rfl | rfl | rfl <;> assumption
end DL

/-! DL18: dicts whose keys are tuples, over the abstract heap. -/
namespace DL
open PySem PySem.Spec PyProof.Rows L2
abbrev NX := NestedKey × Addr × V
abbrev NY := NestedKey × Addr × Value
def PX (xs : List NX) (ys : List NY) : Prop := Paired (fun (x : NX) (y : NY) => x.1 = y.1 ∧ x.2.1 = y.2.1 ∧ RelV x.2.2 y.2.2) xs ys
def lookN (xs : List NX) (k : NestedKey) : Option V := (xs.find? fun x => decide (x.1 = k)).map (·.2.2)
def putX (xs : List NX) (k : NestedKey) (b : Addr) (v : V) : List NX := if (lookN xs k).isSome = true then xs.map (fun x => if x.1 = k then (x.1, x.2.1, v) else x) else xs ++ [(k, b, v)]
theorem PX.look {xs : List NX} {ys : List NY} (h : PX xs ys) (k : NestedKey) : RelO (lookN xs k) ((atKey ys k).map (·.2)) := by
  unfold PX at h
  induction h with
  | nil => exact trivial
  | @cons x y xs ys r t ih =>
    by_cases e : x.1 = k
    · have e' : y.1 = k := r.1.symm.trans e
      simp only [lookN, atKey, List.find?_cons, e, e', decide_true, Option.map_some]
      exact r.2.2
    · have e' : ¬ y.1 = k := fun z => e (r.1.trans z)
      simp only [lookN, atKey, List.find?_cons, e, e', decide_false]
      exact ih
theorem PX.isSome {xs : List NX} {ys : List NY} (h : PX xs ys) (k : NestedKey) : (atKey ys k).isSome = (lookN xs k).isSome := by
  have := (h.look k).isSome_eq
  rw [this, Option.isSome_map]
theorem PX.append {xs xs' : List NX} {ys ys' : List NY} (h : PX xs ys) (h' : PX xs' ys') : PX (xs ++ xs') (ys ++ ys') := by
  unfold PX at h h' ⊢
  induction h with
  | nil => exact h'
  | cons r t ih => exact .cons r ih
theorem PX.repl {xs : List NX} {ys : List NY} (h : PX xs ys) (k : NestedKey) {v : V} {u : Value} (r : RelV v u) : PX (xs.map fun x => if x.1 = k then (x.1, x.2.1, v) else x) (ys.map (putAt k u)) := by
  unfold PX at h ⊢
  induction h with
  | nil => exact .nil
  | @cons x y xs ys q t ih =>
    refine .cons ?_ ih
    unfold putAt
    dsimp only
    by_cases e : x.1 = k
    · rw [if_pos e, if_pos (q.1.symm.trans e)]; exact ⟨q.1, q.2.1, r⟩
    · rw [if_neg e, if_neg (fun z => e (q.1.trans z))]; exact q
theorem PX.put {xs : List NX} {ys : List NY} (h : PX xs ys) (k : NestedKey) (b : Addr) {v : V} {u : Value} (r : RelV v u) : PX (putX xs k b v) (storedH ys k b u) := by
  unfold putX storedH
  rw [h.isSome]
  split
  · exact h.repl k r
  · exact h.append (.cons ⟨rfl, rfl, r⟩ .nil)
theorem PX.length {xs : List NX} {ys : List NY} (h : PX xs ys) : xs.length = ys.length := Paired.length h
theorem putX_len (xs : List NX) (k : NestedKey) (b : Addr) (v : V) : (putX xs k b v).length ≤ xs.length + 1 := by
  unfold putX
  split <;> simp
/-- keys as data, where they stand -/
def KeysOk (K : PySem.W.Frag) (H : Hp) (xs : List NX) : Prop := ∀ x ∈ xs, x.1.depth ≤ 8 ∧ Rep K H (dOf x.1) (.ref x.2.1)
def IsDn (K : PySem.W.Frag) (w : World) (H : Hp) (d : Addr) (xs : List NX) : Prop := (H d = some (dnO (fun k => k.hash w) d xs) ∨ ∃ o, H d = some (.frz o (dnO (fun k => k.hash w) d xs))) ∧ KeysOk K H xs
theorem KeysOk.put {K : PySem.W.Frag} {H : Hp} {xs : List NX} (h : KeysOk K H xs) {k : NestedKey} {b : Addr} (hk : k.depth ≤ 8) (hb : Rep K H (dOf k) (.ref b)) (v : V) : KeysOk K H (putX xs k b v) := by
  intro x hx
  unfold putX at hx
  split at hx
  · obtain ⟨y, hy, rfl⟩ := List.mem_map.mp hx
    by_cases e : y.1 = k
    · rw [if_pos e]; exact h y hy
    · rw [if_neg e]; exact h y hy
  · rcases List.mem_append.mp hx with q | q
    · exact h x q
    · simp at q; subst q; exact ⟨hk, hb⟩
section
variable {X : Cx} {pins : List (Addr × Obj)} {σ : L2.St} {H : Hp} {s : Shared}
mutual
theorem key_is (I : Inv X pins σ H s) : ∀ (k : NestedKey) (v : V) (u : Value), Rep X.K H (dOf k) v → RelV v u → NestedIs s.heap k u
  | .none, v, u, r, q => by
    simp only [dOf] at r
    cases r
    cases q
    exact .none
  | .num i, v, u, r, q => by
    simp only [dOf] at r
    cases r
    obtain ⟨t, rfl⟩ := q
    exact .int _ _
  | .text x, v, u, r, q => by
    simp only [dOf] at r
    cases r
    obtain ⟨t, rfl⟩ := q
    exact .text _ _
  | .tup ks, v, u, r, q => by
    simp only [dOf] at r
    cases r with
    | @tup a vs ds h1 h2 =>
      cases (show u = Value.ref a from q)
      obtain ⟨its, rv, ⟨o, ho, hc, n, hd⟩, _⟩ := I.tuple h1
      exact .tup ho hc hd (by simpa using keys_are I ks vs its h2 rv)
theorem keys_are (I : Inv X pins σ H s) : ∀ (ks : List NestedKey) (vs : List V) (us : List Value), RepL X.K H (dOfs ks) vs → Vals vs us → NestedAll s.heap ks us
  | [], vs, us, r, q => by
    simp only [dOfs] at r
    cases r
    cases q
    exact .nil
  | k :: ks, vs, us, r, q => by
    simp only [dOfs] at r
    cases r with
    | cons h1 h2 =>
      cases q with
      | cons q1 q2 => exact .cons (key_is I k _ _ h1 q1) (keys_are I ks _ _ h2 q2)
end
theorem IsDn.at {d : Addr} {xs : List NX} (I : Inv X pins σ H s) (h : IsDn X.K X.w H d xs) : (d == sysModules) = false ∧ xs.length ≤ sizeLine ∧ ∃ ys, PX xs ys ∧ s.heap.DictOfH (nestedKind X.prog X.w) d ys := by
  obtain ⟨h, hk⟩ := h
  have go : ObjOk X.prog X.w H s.heap d (dnO (fun k => k.hash X.w) d xs) := by
    rcases h with h | ⟨o, h⟩
    · exact I.hok d _ h
    · exact (I.hok d _ h).2
  obtain ⟨⟨h1, h2, ys, hp, ⟨o, es, ep, ho, hx, hd, he⟩, hn⟩, _⟩ := go
  refine ⟨h1, h2, ys, hp, o, es, ep, ho, hx, hd, he, ?_, hn⟩
  have key : ∀ {xs : List NX} {ys : List NY}, PX xs ys → KeysOk X.K H xs → ∀ y ∈ ys, (nestedKind X.prog X.w).is s.heap y.1 y.2.1 := by
    intro xs ys h
    unfold PX at h
    induction h with
    | nil => intro _ y hy; cases hy
    | @cons x y xs ys r t ih =>
      intro hk z hz
      rcases List.mem_cons.mp hz with rfl | hz
      · obtain ⟨d1, d2⟩ := hk x List.mem_cons_self
        rw [← r.1, ← r.2.1]
        exact ⟨key_is I x.1 _ _ d2 rfl, d1⟩
      · exact ih (fun q hq => hk q (List.mem_cons_of_mem _ hq)) z hz
  exact key hp hk
theorem dn_ok {d : Addr} {xs : List NX} {ys : List NY} {h' : Heap} {H' : Hp} (h1 : (d == sysModules) = false) (h2 : xs.length ≤ sizeLine) (hp : PX xs ys) (hm : h'.DictOfH (nestedKind X.prog X.w) d ys) : ObjOk X.prog X.w H' h' d (dnO (fun k => k.hash X.w) d xs) := by
  obtain ⟨o, es, ep, ho, hx, hd, he, _, hn⟩ := hm
  refine ⟨⟨h1, h2, ys, hp, ⟨o, es, ep, ho, hx, hd, he⟩, hn⟩, ⟨o, ho⟩, ?_⟩
  rintro g1 g2 ⟨a1, a2, ys', a3, ⟨o', es', ep', b1, b2, b3, b4⟩, a5⟩ hk
  exact ⟨a1, a2, ys', a3, ⟨o', es', ep', hk _ b1, b2, b3, b4⟩, a5⟩
end
/-! ### in, d[k], d[k] = v, len -/
def rInN (K : PySem.W.Frag) (w : World) (neg : Bool) : R2 := fun x y H Q => ∃ d b k xs, x = .ref b ∧ y = .ref d ∧ IsDn K w H d xs ∧ k.depth ≤ 8 ∧ Rep K H (dOf k) (.ref b) ∧ Q (.bl (neg != (lookN xs k).isSome)) H
section
variable {X : Cx}
theorem op_inN (hu : X.A.units + 65 < cLine) : OpR X (compareOp .In) (rInN X.K X.w false) := by
  intro pins s σ H x y v u Q I rx ry h
  obtain ⟨d, b, k, xs, rfl, rfl, hd, hk, hb, q⟩ := h
  cases (show v = Value.ref b from rx)
  cases (show u = Value.ref d from ry)
  obtain ⟨h1, h2, ys, hp, hm⟩ := hd.at I
  refine wpAny_in_heap (knd := nestedKind X.prog X.w) (by show X.A.units + 1 + 8 < cLine; omega) (k := k) ⟨key_is I k _ _ hb rfl, hk⟩ h1 hm ?_
  rw [hp.isSome]
  exact ⟨.bl _, H, I.tok _, rfl, by simpa using q⟩
theorem op_notInN (hu : X.A.units + 65 < cLine) : OpR X (compareOp .NotIn) (rInN X.K X.w true) := by
  intro pins s σ H x y v u Q I rx ry h
  obtain ⟨d, b, k, xs, rfl, rfl, hd, hk, hb, q⟩ := h
  cases (show v = Value.ref b from rx)
  cases (show u = Value.ref d from ry)
  obtain ⟨h1, h2, ys, hp, hm⟩ := hd.at I
  show wpAny _ _ (do return Value.bool (!(← contains (.ref d) (.ref b)))) _ _ s
  refine wpAny_bind (wpAny_contains_heap (knd := nestedKind X.prog X.w) (by show X.A.units + 1 + 8 < cLine; omega) (k := k) ⟨key_is I k _ _ hb rfl, hk⟩ h1 hm (wpAny_pure ?_))
  rw [hp.isSome]
  refine ⟨.bl _, H, I.tok _, rfl, ?_⟩
  have e : (true != (lookN xs k).isSome) = !(lookN xs k).isSome := by cases (lookN xs k).isSome <;> rfl
  rw [e] at q
  exact q
def rIxN (K : PySem.W.Frag) (w : World) : R2 := fun x y H Q => ∃ d b k xs v, x = .ref d ∧ y = .ref b ∧ IsDn K w H d xs ∧ k.depth ≤ 8 ∧ Rep K H (dOf k) (.ref b) ∧ lookN xs k = some v ∧ Q v H
theorem ix_dn (hu : X.A.units + 65 < cLine) : IxR X (rIxN X.K X.w) := by
  intro value slice pins s σ H x y v u Q I rx ry h hs
  obtain ⟨d, b, k, xs, z, rfl, rfl, hd, hk, hb, hv, q⟩ := h
  cases (show v = Value.ref d from rx)
  cases (show u = Value.ref b from ry)
  obtain ⟨h1, h2, ys, hp, hm⟩ := hd.at I
  obtain ⟨w', hw, rw'⟩ := RelO.some_of (v := z) (o := (atKey ys k).map (·.2)) (by rw [← hv]; exact hp.look k)
  obtain ⟨p, hp1, hp2⟩ := Option.map_eq_some_iff.mp hw
  refine tail_any hm.typeIs PySem.F.slot_dict_getitem.lookup (wpAny_getItem_heap (knd := nestedKind X.prog X.w) (by show X.A.units + 1 + 8 < cLine; omega) (k := k) ⟨key_is I k _ _ hb rfl, hk⟩ hm hp1 ?_) hs
  rw [hp2]
  exact ⟨z, H, I.tok _, rw', q⟩
def rSetN (K : PySem.W.Frag) (w : World) : TSet := fun o i v H Q => ∃ d b k xs, o = .ref d ∧ i = .ref b ∧ H d = some (dnO (fun k => k.hash w) d xs) ∧ KeysOk K H xs ∧ k.depth ≤ 8 ∧ Rep K H (dOf k) (.ref b) ∧ xs.length < sizeLine ∧ Q (upd H d (dnO (fun k => k.hash w) d (putX xs k b v)))
theorem set_dn (hu : X.A.units + 65 < cLine) : PSet X (rSetN X.K X.w) := by
  intro pins s σ H o i v ov iv u Q I ro ri rv h
  obtain ⟨d, b, k, xs, rfl, rfl, hd, hks, hk, hb, hl, q⟩ := h
  cases (show ov = Value.ref d from ro)
  cases (show iv = Value.ref b from ri)
  obtain ⟨h1, h2, ys, hp, hm⟩ := IsDn.at I ⟨.inl hd, hks⟩
  refine wpAny_setItem_heap (knd := nestedKind X.prog X.w) (hsz := by rw [← hp.length]; exact h2) (by show X.A.units + 1 + 8 < cLine; omega) (k := k) ⟨key_is I k _ _ hb rfl, hk⟩ hm fun h' hm' hs => ?_
  have he : ∃ q, h'.get? d = some q := let ⟨q, _, _, hq, _⟩ := hm'; ⟨q, hq⟩
  have hl' := putX_len xs k b v
  exact ⟨_, d_write I (by rw [hd]; exact True.intro) hs he (dn_ok h1 (by omega) (hp.put k b rv) hm'), q⟩
/-- len(d) -/
def rLenN (K : PySem.W.Frag) (w : World) : List V → Hp → VK → Prop := fun vs H Q => ∃ d xs, vs = [.ref d] ∧ IsDn K w H d xs ∧ Q (.int xs.length) H
theorem call_lenN : CallR X (.builtin "len") (rLenN X.K X.w) := by
  intro pins s σ H vs us Q I r h
  obtain ⟨d, xs, rfl, hd, q⟩ := h
  rw [Vals.ref1 r]
  obtain ⟨h1, h2, ys, hp, hm⟩ := hd.at I
  have hk : s.heap.DictKeyed (nestedKind X.prog X.w) d (pairsH ys) := ⟨ys, hm, rfl⟩
  have hn : (pairsH ys).length = xs.length := by rw [pairsH_length, hp.length]
  refine PyProof.Rows.call_len_slot (n := (pairsH ys).length) hm.typeIs F.slot_dict_len (fun Q' hq => len_keyed h1 hk hq) (by omega) (by rw [sizeLine_eq] at h2; omega) ?_
  rw [hn]
  exact ⟨.int _, H, I.tok _, ⟨_, rfl⟩, q⟩
/-! ### {} and {k: v} -/
theorem dn_empty {H : Hp} (h : Heap) (hb : sysModules < h.objs.size) : ObjOk X.prog X.w H (h.push { cls := .type "dict", data := .dict #[] }) h.objs.size (dnO (fun k => k.hash X.w) h.objs.size []) :=
  dn_ok (beq_eq_false_iff_ne.mpr (Nat.ne_of_gt hb)) (Nat.zero_le _) .nil (Heap.DictOfH.new h)
variable {pos : Pos}
def tDNewN (w : World) : TE := fun _ H Q => ∀ p, H p = none → Q (.ref p) (upd H p (dnO (fun k => k.hash w) p []))
theorem pe_dnewN : PE X (.Dict [] [] pos) (tDNewN X.w) := ⟨fun pins s σ H Q I h =>
  wpAny_Dict_empty ⟨.ref s.heap.objs.size, _, I.laid (a := s.heap.objs.size) (o := dnO (fun k => k.hash X.w) s.heap.objs.size []) (t' := s.toks) (fun _ _ q => Heap.get?_push_of_some _ q) (Nat.le_refl _) (dn_empty s.heap I.big), rfl, h _ (I.hok.fresh (Nat.le_refl _))⟩⟩
end
end DL

/-! DL19: dicts whose keys are tuples: displays, dict(..), get, walks; sorted of data. -/
namespace DL
open PySem PySem.Spec PyProof.Rows L2
section
variable {X : Cx} {pos : Pos}
/-- {k: v} -/
def tDisp1N (K : PySem.W.Frag) (w : World) (tk tv : TE) : TE := fun σ H Q => ∀ p, H p = none → tPairs [(tk, tv)] σ (upd H p (dnO (fun k => k.hash w) p [])) fun ps H2 => ∃ x y, ps = [(x, y)] ∧ H2 p = some (dnO (fun k => k.hash w) p []) ∧ ∃ k b, x = .ref b ∧ k.depth ≤ 8 ∧ Rep K H2 (dOf k) (.ref b) ∧ Q (.ref p) (upd H2 p (dnO (fun k => k.hash w) p [(k, b, y)]))
theorem pe_disp1N {k v : Expr} {tk tv : TE} (hu : X.A.units + 65 < cLine) (hk : PE X k tk) (hv : PE X v tv) : PE X (.Dict [some k] [v] pos) (tDisp1N X.K X.w tk tv) := by
  refine ⟨fun pins s σ H Q I q => ?_⟩
  have hn := I.hok.fresh (Nat.le_refl s.heap.objs.size)
  have I1 := I.laid (a := s.heap.objs.size) (o := dnO (fun k => k.hash X.w) s.heap.objs.size []) (h' := s.heap.push { cls := .type "dict", data := .dict #[] }) (t' := s.toks) (fun _ _ q => Heap.get?_push_of_some _ q) (Nat.le_refl _) (dn_empty s.heap I.big)
  have q' := q _ hn
  rw [arm_eval_Dict, zip_pairTrees [some k] [v] X.env pos rfl rfl, dictDisplay_pairs (pairTrees [some k] [v] X.env pos) (by simp [pairTrees]) (by simp [pairTrees])]
  refine wpAny_bind (wpAny_standAt (wpAny_bind (wpAny_subDictH (knd := nestedKind X.prog X.w) (Q := fun d s' => wpAny (model X.prog X.w) X.A (pure (Value.ref d)) (EP X pins σ Q) X.xe s') (by show X.A.units + 8 < cLine; omega) (by simp [pairTrees]) ?_)))
  refine thn ((pps_cons hk hv pps_nil).run pins _ σ _ _ I1 q') fun ws s2 ⟨ps, H2, I2, rel, x, y, ep, e, kk, b, ex, hd, hb, q2⟩ => ?_
  · subst ep
    subst ex
    cases rel with
    | @cons _ w0 _ ws0 r t =>
      cases t
      obtain ⟨w1, w2⟩ := w0
      cases (show w1 = Value.ref b from r.1)
      obtain ⟨h1, h2, ys, hp, hm⟩ := IsDn.at I2 ⟨.inl e, fun _ z => by cases z⟩
      cases hp
      refine ⟨[(kk, b, w2)], ⟨rfl, rfl, ⟨key_is I2 kk _ _ hb rfl, hd⟩, trivial⟩, hm, fun h' tk' hm' hs => ?_⟩
      refine wpAny_pure ⟨.ref s.heap.objs.size, _, ?_, rfl, q2⟩
      have he : ∃ q, h'.get? s.heap.objs.size = some q := let ⟨q, _, _, hq, _⟩ := hm'; ⟨q, hq⟩
      exact d_write I2 (by rw [e]; exact True.intro) hs he (dn_ok h1 (by show 1 ≤ sizeLine; decide) (.cons ⟨rfl, rfl, r.2⟩ .nil) hm')
/-! ### dict(pairs) -/
def mergeX (acc : List NX) (xs : List NX) : List NX := xs.foldl (fun acc x => putX acc x.1 x.2.1 x.2.2) acc
theorem mergeX_len : ∀ (xs acc : List NX), (mergeX acc xs).length ≤ acc.length + xs.length
  | [], acc => by simp [mergeX]
  | x :: xs, acc => by
    have h1 := mergeX_len xs (putX acc x.1 x.2.1 x.2.2)
    have h2 := putX_len acc x.1 x.2.1 x.2.2
    show (mergeX (putX acc x.1 x.2.1 x.2.2) xs).length ≤ _
    rw [List.length_cons]; omega
theorem PX.merge {xs : List NX} {ys : List NY} (h : PX xs ys) : ∀ {acc : List NX} {bcc : List NY}, PX acc bcc → PX (mergeX acc xs) (storedAllH bcc ys) := by
  unfold PX at h
  induction h with
  | nil => exact fun q => q
  | @cons x y xs ys r t ih =>
    intro acc bcc q
    have e := q.put x.1 x.2.1 r.2.2
    have : storedAllH bcc (y :: ys) = storedAllH (storedH bcc x.1 x.2.1 y.2.2) ys := by rw [r.1, r.2.1]; rfl
    rw [this]
    exact ih e
/-- what stands of a list of pairs: their tuples, their keys' tuples, their values -/
def PairsN (K : PySem.W.Frag) (H : Hp) (ps : List Addr) (xs : List NX) : Prop := Paired (fun p (x : NX) => SqT K H p [.ref x.2.1, x.2.2]) ps xs
theorem pairsN_of {pins : List (Addr × Obj)} {σ : L2.St} {H : Hp} {s : Shared} (I : Inv X pins σ H s) {ps : List Addr} {xs : List NX} (h : PairsN X.K H ps xs) : ∃ ys : List NY, PX xs ys ∧ ps.length = ys.length ∧ ∀ (j : Nat) (y : NY), ys[j]? = some y → ∃ T, ps[j]? = some T ∧ s.heap.IsTuple T #[.ref y.2.1, y.2.2] := by
  unfold PairsN at h
  induction h with
  | nil => exact ⟨[], .nil, rfl, fun j y e => by simp at e⟩
  | @cons p x ps xs r t ih =>
    obtain ⟨ys, h1, h2, h3⟩ := ih
    obtain ⟨its, rv, hT, _⟩ := I.tuple r
    cases rv with
    | @cons _ u1 _ us1 q1 t1 =>
      cases t1 with
      | @cons _ u2 _ us2 q2 t2 =>
        cases t2
        cases (show u1 = Value.ref x.2.1 from q1)
        refine ⟨(x.1, x.2.1, u2) :: ys, .cons ⟨rfl, rfl, q2⟩ h1, by simp [h2], fun j y e => ?_⟩
        cases j with
        | zero =>
          simp at e; subst e
          exact ⟨p, rfl, hT⟩
        | succ j => exact h3 j y (by simpa using e)
def rDictN (K : PySem.W.Frag) (w : World) : List V → Hp → VK → Prop := fun vs H Q => ∃ (a : Addr) (ps : List Addr) (xs : List NX), vs = [.ref a] ∧ SqL K H a (ps.map V.ref) ∧ PairsN K H ps xs ∧ KeysOk K H xs ∧ ∀ p, H p = none → Q (.ref p) (upd H p (dnO (fun k => k.hash w) p (mergeX [] xs)))
theorem call_dictN (hcalm : X.calm = true) (hu : X.A.units + 65 < cLine) : CallR X (.type "dict") (rDictN X.K X.w) := by
  intro pins s σ H vs us Q I r h
  obtain ⟨a, ps, xs, rfl, hq, hp, hks, q⟩ := h
  rw [Vals.ref1 r]
  obtain ⟨its, rv, pl, hz⟩ := I.list hq
  have ei := refs_at rv
  subst ei
  rw [List.length_map] at hz
  obtain ⟨ys, hx, hl, hy⟩ := pairsN_of I hp
  obtain ⟨o, n, ho, hc, hd, hdat⟩ := pl
  let pr : List (Value × Value) := ys.map fun y => (Value.ref y.2.1, y.2.2)
  have hpl : pr.length = ys.length := by simp [pr]
  refine call_dict_pairsH (knd := nestedKind X.prog X.w) (ps := ys) (PairArg.list a (ps.map Value.ref).toArray (fun j => ps.getD j 0) pr) (I.ok.hd hcalm) (by show X.A.units + 1 + 1 + 8 < cLine; omega) ⟨⟨o, n, ho, hc, hd, hdat⟩, by simp [hpl, hl], fun j k v e => ?_⟩ ⟨hpl.symm, fun i key v e => ?_⟩ ?_ (by rw [hpl, ← hl]; exact hz) fun h' tk hd' hk => ?_
  · simp only [pr, List.getElem?_map] at e
    cases ey : ys[j]? with
    | none => rw [ey] at e; simp at e
    | some y =>
      rw [ey] at e
      simp at e
      obtain ⟨rfl, rfl⟩ := e
      obtain ⟨T, e1, e2⟩ := hy j y ey
      refine ⟨by simp [e1, List.getD], .inl ?_⟩
      have : ps.getD j 0 = T := by simp [List.getD, e1]
      show s.heap.IsTuple (ps.getD j 0) _
      rw [this]; exact e2
  · have e' : pr[i]? = some (key, v) := e
    simp only [pr, List.getElem?_map] at e'
    cases ey : ys[i]? with
    | none => rw [ey] at e'; simp at e'
    | some y =>
      rw [ey] at e'
      simp at e'
      exact ⟨y.1, y.2.1, by rw [← e'.2], e'.1.symm⟩
  · intro h' hk y hy'
    have kk : ∀ {xs : List NX} {ys : List NY}, PX xs ys → KeysOk X.K H xs → ∀ y ∈ ys, (nestedKind X.prog X.w).is s.heap y.1 y.2.1 := by
      intro xs ys h
      unfold PX at h
      induction h with
      | nil => intro _ y hy; cases hy
      | @cons x y xs ys r t ih =>
        intro hk z hz
        rcases List.mem_cons.mp hz with rfl | hz
        · obtain ⟨d1, d2⟩ := hk x List.mem_cons_self
          rw [← r.1, ← r.2.1]
          exact ⟨key_is I x.1 _ _ d2 rfl, d1⟩
        · exact ih (fun q hq => hk q (List.mem_cons_of_mem _ hq)) z hz
    exact nestedKind_stays.stays (fun b o vs n e _ => hk b o (Nat.ne_of_lt (Heap.lt_size e)) (by simp) e) (kk hx hks y hy')
  · have hm : (s.heap.objs.size == sysModules) = false := beq_eq_false_iff_ne.mpr (Nat.ne_of_gt I.big)
    have hlen : (mergeX [] xs).length ≤ sizeLine := by
      have := mergeX_len xs []
      rw [List.length_nil, Nat.zero_add, hx.length, ← hl] at this
      omega
    exact ⟨.ref s.heap.objs.size, _, I.laid (t' := tk) (fun b o e => hk b o (by simp) e) (Nat.le_refl _) (dn_ok hm hlen (hx.merge .nil) hd'), rfl, q _ (I.hok.fresh (Nat.le_refl _))⟩
/-! ### d.get(k, x) -/
def rGetN (K : PySem.W.Frag) (w : World) : V → List V → Hp → VK → Prop := fun x vs H Q => ∃ d b k xs z, x = .ref d ∧ vs = [.ref b, z] ∧ IsDn K w H d xs ∧ k.depth ≤ 8 ∧ Rep K H (dOf k) (.ref b) ∧ Q ((lookN xs k).getD z) H
theorem mt_getN (hu : X.A.units + 65 < cLine) : MtR X "dict.get" (rGetN X.K X.w) := by
  intro pins s σ H x vs v us Q I rx r h
  obtain ⟨d, b, k, xs, z, rfl, rfl, hd, hk, hb, q⟩ := h
  cases (show v = Value.ref d from rx)
  cases r with
  | @cons _ u1 _ us1 q1 t1 =>
    cases t1 with
    | @cons _ u2 _ us2 q2 t2 =>
      cases t2
      cases (show u1 = Value.ref b from q1)
      obtain ⟨h1, h2, ys, hp, hm⟩ := hd.at I
      refine call_meetsIn F.slot_dict_get hm.typeIs F.entry_dict_get (F.args_dict_get_3 _ _ _) (meetsH_dict_get_default (nestedKind X.prog X.w) d b h1 u2) ⟨by show X.A.units + 1 + 8 < cLine; omega, k, ys, ⟨key_is I k _ _ hb rfl, hk⟩, hm, ?_⟩
      exact ⟨_, H, I.tok _, (hp.look k).getD q2, q⟩
end
end DL

/-! DL20: sorted(xs) of data of any length, sorted(d) of a dict whose keys are tuples; walks of such a dict. -/
namespace DL
open PySem PySem.Spec PySem.Calls PyProof.Rows L2
open PySem.W (EachIs sorted_data list_sort_data dataLe AllAlike Sortable KdlSrc kdu_collect)
theorem each_vals {α : Type} {f : α → V} : ∀ {bs : List α} {us : List Value}, Vals (bs.map f) us → EachIs (fun v b => RelV (f b) v) us bs
  | [], _, r => by cases r; exact .nil
  | b :: bs, _, r => by
    cases r with
    | cons h t => exact .cons h (each_vals t)
theorem vals_each {α : Type} {f : α → V} : ∀ {us : List Value} {bs : List α}, EachIs (fun v b => RelV (f b) v) us bs → Vals (bs.map f) us
  | _, _, .nil => .nil
  | _, _, .cons h t => .cons h (vals_each t)
theorem each_mem2 {α β : Type} {R R' : α → β → Prop} : ∀ {as : List α} {bs : List β}, EachIs R as bs → (∀ a b, b ∈ bs → R a b → R' a b) → EachIs R' as bs
  | _, _, .nil, _ => .nil
  | _, _, .cons h t, f => .cons (f _ _ List.mem_cons_self h) (each_mem2 t fun a b hb => f a b (List.mem_cons_of_mem _ hb))
mutual
theorem reads_there {h : Heap} : ∀ (d : PyData) (v : Value) (as : List Addr), PySem.W.alike d d = true → Reads h v d as → ∀ x ∈ as, ∃ o, h.get? x = some o
  | .none, _, _, _, r => by cases r; exact fun _ z => by cases z
  | .bool _, _, _, _, r => by cases r; exact fun _ z => by cases z
  | .int _, _, _, _, r => by cases r; exact fun _ z => by cases z
  | .str _, _, _, _, r => by cases r; exact fun _ z => by cases z
  | .list xs, _, _, ha, r => by
    cases r with
    | list h1 h2 h3 h4 =>
      intro x z
      rcases List.mem_cons.mp z with e | e
      · exact ⟨_, by rw [e]; exact h1⟩
      · exact readsAll_there xs _ _ (by simpa [PySem.W.alike] using ha) h4 x e
  | .tuple xs, _, _, ha, r => by
    cases r with
    | tuple h1 h2 h3 h4 => exact readsAll_there xs _ _ (by simpa [PySem.W.alike] using ha) h4
  | .dict _, _, _, ha, _ => absurd ha (by simp [PySem.W.alike])
theorem readsAll_there {h : Heap} : ∀ (ds : List PyData) (vs : List Value) (as : List Addr), PySem.W.alikeAll ds ds = true → ReadsAll h vs ds as → ∀ x ∈ as, ∃ o, h.get? x = some o
  | [], _, _, _, r => by cases r; exact fun _ z => by cases z
  | d :: ds, _, _, ha, r => by
    cases r with
    | cons h1 h2 =>
      intro x z
      rcases List.mem_append.mp z with e | e
      · exact reads_there d _ _ (PySem.W.alike_all_cons ha).1 h1 x e
      · exact readsAll_there ds _ _ (PySem.W.alike_all_cons ha).2 h2 x e
end
def rSortD (K : PySem.W.Frag) : List V → Hp → VK → Prop := fun vs H Q => ∃ (a : Addr) (bs : List (V × PyData)), vs = [.ref a] ∧ SqL K H a (bs.map (·.1)) ∧ (∀ b ∈ bs, Dp K H b.1 b.2) ∧ AllAlike (bs.map (·.2)) ∧ Sortable (bs.map (·.2)) ∧ (∀ b ∈ bs, b.2.depth ≤ 8) ∧
  ∀ p, H p = none → Q (.ref p) (upd H p (.lst ((bs.mergeSort (dataLe false (·.2))).map (·.1))))
section
variable {X : Cx} {pos : Pos}
theorem call_sortD (hu : X.A.units + 65 < cLine) : CallR X (.builtin "sorted") (rSortD X.K) := by
  intro pins s σ H vs us Q I r h
  obtain ⟨a, bs, rfl, hq, hd, hal, hk, hdp, q⟩ := h
  rw [Vals.ref1 r]
  obtain ⟨its, rv, ⟨o, n, ho, hc, _, hdat⟩, hz⟩ := I.list hq
  rw [List.length_map] at hz
  refine sorted_data (vs := its) (bs := bs) (enc := (·.2)) (R := fun v b => RelV b.1 v) ⟨o, ho, hc, n, hdat⟩ (each_vals rv) (each_mem2 (each_vals rv) fun v b hb rb => Dp.reads I _ _ _ (hd b hb) rb) hal hk hz (fun b hb => by have := hdp b hb; omega) fun out hl eo => ?_
  obtain ⟨e, he⟩ := sortedAll_at s.heap its out.toArray
  refine ⟨.ref (s.heap.objs.size + 1), _, I.laid (t' := s.toks) (a := s.heap.objs.size + 1) (o := .lst ((bs.mergeSort (dataLe false (·.2))).map (·.1))) (fun _ _ => sortedAll_old) (Nat.le_succ _) ⟨?_, out, e, vals_each eo, he⟩, rfl, q _ (I.hok.fresh (Nat.le_succ _))⟩
  rw [List.length_map, (List.mergeSort_perm _ _).length_eq]
  exact hz
/-! sorted(d) -/
theorem sorted_src {prog : Program} {w : World} {A : Around} {E : Value → Shared → Prop} {s : Shared} {T : String} {r d : Addr} {n : Nat} {P : Nat → Value → Prop} {OK : Heap → Prop} {Q : Value → Shared → Prop} (K : KdlSrc prog w T r d n P OK) (hh : A.handled = none) (hok : OK s.heap) (hn : n ≤ sizeLine)
    (h : ∀ (h' : Heap) (tk : Nat) (vs : List Value), (∀ b o, s.heap.get? b = some o → h'.get? b = some o) → vs.length = n → (∀ (j : Nat) (v : Value), vs[j]? = some v → P j v) →
      wpAny (model prog w) A.in1 (call (.builtin "list.sort") [.ref h'.objs.size]) (fun _ s' => Q (.ref h'.objs.size) s') E { s with heap := h'.push { cls := .type "list", data := .seq vs.toArray }, toks := tk }) :
    wpAny (model prog w) A (call (.builtin "sorted") [.ref r]) Q E s := by
  refine call_function_entry kind_sorted plain_sorted entry_sorted (args_sorted1 _) ?_
  unfold Builtin.«sorted»
  refine wpAny_bind (m := checkCount "sorted" 1 1 _) (wpAny_pure ?_)
  refine wpAny_bind (kdu_collect (A := A.in1) K hh hok hn fun h' tk acc hk hacc => ?_)
  have hl : acc.toList.length = n := by rw [Array.length_toList]; exact hacc.1
  refine wpAny_bind (wpAny_newList ?_ (by rw [hl]; exact hn))
  have hg := h h' tk acc.toList hk hl (fun j v e => hacc.2 j v (by rw [← Array.getElem?_toList]; exact e))
  refine wpAny_bind (wpAny_holding (wpAny_mono hg (fun _ s' x => ?_) fun _ _ e => e))
  exact wpAny_pure ⟨_, rfl, x⟩
/-- the key as data -/
def keyP (k : NestedKey) : PyData := toPy (dOf k)
def rSortN (K : PySem.W.Frag) (w : World) : List V → Hp → VK → Prop := fun vs H Q => ∃ (d : Addr) (xs : List NX), vs = [.ref d] ∧ IsDn K w H d xs ∧ (∀ x ∈ xs, okD 8 (dOf x.1) = true) ∧ AllAlike (xs.map fun x => keyP x.1) ∧ Sortable (xs.map fun x => keyP x.1) ∧
  ∀ p, H p = none → Q (.ref p) (upd H p (.lst ((xs.mergeSort (dataLe false fun x => keyP x.1)).map fun x => .ref x.2.1)))
theorem call_sortN (hcalm : X.calm = true) (hu : X.A.units + 65 < cLine) : CallR X (.builtin "sorted") (rSortN X.K X.w) := by
  intro pins s σ H vs us Q I r h
  obtain ⟨d, xs, rfl, hd, hok, hal, hk, q⟩ := h
  rw [Vals.ref1 r]
  obtain ⟨h1, h2, ys, hp, hm⟩ := hd.at I
  obtain ⟨es, ep, hr, hs, he⟩ := hm.raw
  have hlen : es.size = xs.length := by rw [hs, hp.length]
  refine sorted_src (KdlSrc.rawDict h1) (I.ok.hd hcalm) hr (by rw [hlen]; exact h2) fun h' tk vs hk' hl hv => ?_
  have hvs : vs = xs.map fun x => Value.ref x.2.1 := by
    apply List.ext_getElem?
    intro j
    by_cases hj : j < vs.length
    · obtain ⟨hi, e⟩ := hv j vs[j] (List.getElem?_eq_getElem hj)
      obtain ⟨y, ey, e1, _, _⟩ := he j hi
      have hjx : j < xs.length := by omega
      obtain ⟨y', ey', rel⟩ := paired_get hp (List.getElem?_eq_getElem hjx)
      rw [ey] at ey'; cases ey'
      rw [List.getElem?_eq_getElem hj, e, e1, List.getElem?_map, List.getElem?_eq_getElem hjx, ← rel.2.1]
      rfl
    · rw [List.getElem?_eq_none (by omega), List.getElem?_eq_none (by rw [List.length_map]; omega)]
  have rv : Vals (xs.map fun x => V.ref x.2.1) vs := by
    rw [hvs]
    have key : ∀ l : List NX, Vals (l.map fun x => V.ref x.2.1) (l.map fun x => Value.ref x.2.1) := by
      intro l
      induction l with
      | nil => exact .nil
      | cons x l ih => exact .cons rfl ih
    exact key xs
  have I1 : Inv X pins σ H { s with heap := h', toks := tk } := I.kept hk'
  have hD : (h'.push { cls := .type "list", data := .seq vs.toArray }).get? h'.objs.size = some (seqObj "list" vs.toArray 0) := Heap.get?_push_size _ rfl
  have er : EachIs (fun v (b : NX) => ∃ as, Reads s.heap v (keyP b.1) as) vs xs := each_mem2 (each_vals rv) fun v b hb rb => Dp.reads I _ _ _ (dp_of (Same.refl H) 8 _ _ (hd.2 b hb).2 (hok b hb)) rb
  refine list_sort_data (s := { s with heap := h'.push { cls := .type "list", data := .seq vs.toArray }, toks := tk }) (vs := vs) (bs := xs) (enc := fun x => keyP x.1) (R := fun v b => RelV (V.ref b.2.1) v) hD (each_vals rv) (each_mem2 er fun v b hb ⟨as, ra⟩ => ⟨as, PyProof.Rows.Reads.keeps (fun b o e => Heap.get?_push_of_some _ (hk' b o e)) ra, fun z => ?_⟩) hal hk (by omega) (fun b hb => ?_) fun out ho eo => ?_
  · have haa := hal _ (List.mem_map.mpr ⟨b, hb, rfl⟩) _ (List.mem_map.mpr ⟨b, hb, rfl⟩)
    obtain ⟨o, e⟩ := reads_there _ _ _ haa ra _ z
    exact absurd (Heap.lt_size (hk' _ _ e)) (Nat.lt_irrefl _)
  · have := (okD_lay 8 _ (hok b hb)).2
    show X.A.units + 1 + 1 + (keyP b.1).depth < cLine
    unfold keyP
    omega
  · obtain ⟨e, hfin⟩ := sortedHeap_at (vs := vs) (out := out.toArray) hD
    refine ⟨.ref h'.objs.size, _, I1.laid (t' := tk) (a := h'.objs.size) (o := .lst ((xs.mergeSort (dataLe false fun x => keyP x.1)).map fun x => .ref x.2.1)) (fun b o q => ?_) (Nat.le_refl _) ⟨?_, out, e, vals_each eo, hfin⟩, rfl, q _ (I1.hok.fresh (Nat.le_refl _))⟩
    · have hb : b < h'.objs.size := Heap.lt_size q
      rw [sortedHeap_old (Nat.ne_of_lt hb) (by rw [size_push']; exact Nat.lt_succ_of_lt hb)]
      exact Heap.get?_push_of_some _ q
    · rw [List.length_map, (List.mergeSort_perm _ _).length_eq]
      exact h2
/-! ### for k in d -/
theorem Inv.frzN {pins : List (Addr × Obj)} {σ : L2.St} {H : Hp} {s : Shared} {d : Addr} {o : Obj} {xs : List NX} {hs : NestedKey → Int} (I : Inv X pins σ H s) (h : H d = some (.frz o (dnO hs d xs))) :
    (d == sysModules) = false ∧ s.heap.get? d = some o ∧ o.ExactDict ∧ ∃ (es : Array DictEntry) (ep : Nat), o.data = .dict es ep ∧ es.size = xs.length ∧ ∀ (i : Nat) (x : NX), xs[i]? = some x → ∃ en : DictEntry, es[i]? = some en ∧ en.key = .ref x.2.1 := by
  obtain ⟨hd, ⟨h1, h2, ys, hp, ⟨o', es, ep, ho, hx, hdt, he⟩, hn⟩, _⟩ := I.hok d _ h
  rw [hd] at ho
  cases ho
  refine ⟨h1, hd, hx, es, ep, hdt, ?_, fun i x e => ?_⟩
  · rw [Paired.length hp, ← Array.length_toList, he, List.length_map]
  · obtain ⟨y, ey, r⟩ := paired_get hp e
    have q : es[i]? = (ys[i]?).map (fun y => (⟨hs y.1, .ref y.2.1, y.2.2⟩ : DictEntry)) := by rw [← Array.getElem?_toList, he, List.getElem?_map]
    rw [ey] at q
    exact ⟨_, q, by rw [r.2.1]⟩
def Itn (d : Addr) (o : Obj) (hs : NestedKey → Int) (xs : List NX) : It :=
  ⟨fun i H => H d = some (.frz o (dnO hs d xs)) ∧ i < xs.length, fun i H x H' => H' = H ∧ ∃ q : NX, xs[i]? = some q ∧ x = .ref q.2.1, fun i H => H d = some (.frz o (dnO hs d xs)) ∧ xs.length ≤ i⟩
theorem turn_keysN {P : Program} {w : World} {K : PySem.W.Frag} {tg : Expr} {d : Addr} {o : Obj} {es : Array DictEntry} {ep : Nat} {hs : NestedKey → Int} {xs : List NX} (it : Addr) (hod : o.data = .dict es ep) : Turn P w K tg (Itn d o hs xs) [it] it (fun i h => h.IsKeyIter it d i xs.length ep) where
  mem := by simp
  obj := fun i h st b hb => by
    have e : b = it := by simpa using hb
    subst e
    obtain ⟨oi, e, c, dd⟩ := st
    exact ⟨oi, e, fun v z => by rw [dd] at z; cases z⟩
  keep := fun i h h' st k => st.at fun oi e => k it (by simp) oi e
  item := by
    intro X hP hw hK hc i pins s σ H E I hf st hg
    subst hP hw hK
    obtain ⟨hd, hi⟩ := hg
    obtain ⟨f0, f1, f2, f3, f4, f5⟩ := hf it (by simp)
    obtain ⟨hs', hgd, hx, es', ep', hdt, hsz, ent⟩ := Inv.frzN I hd
    obtain ⟨rfl, rfl⟩ := dict_ep hod hdt
    obtain ⟨x, hkv⟩ : ∃ p, xs[i]? = some p := ⟨xs[i], List.getElem?_eq_getElem hi⟩
    obtain ⟨en, hen, hkey⟩ := ent i x hkv
    refine next_key_item st hgd hdt hsz hen fun h' st' sb => ?_
    have I1 : Inv X pins σ H { s with heap := h' } := I.turned (t' := s.toks) (fun b ob hb e => (sb.2 b hb).trans e) f0 f1 f3 f4 f5
    obtain ⟨oi, e, c, dd⟩ := id st'
    exact ⟨en.key, rfl, go_of (s := { s with heap := h' }) e c dd (by decide) ⟨.ref x.2.1, H, I1, hkey, ⟨rfl, x, hkv, rfl⟩, st', fun b hb => (hf b hb).1⟩⟩
  done := by
    intro X hP hw hK hc i pins s σ H E I hf st hg
    subst hP hw hK
    obtain ⟨hd, hi⟩ := hg
    obtain ⟨f0, f1, f2, f3, f4, f5⟩ := hf it (by simp)
    obtain ⟨hs', hgd, hx, es', ep', hdt, hsz, ent⟩ := Inv.frzN I hd
    obtain ⟨rfl, rfl⟩ := dict_ep hod hdt
    exact next_key_end (I.ok.hd hc) st hgd hdt hsz hi fun h' eb => ⟨rfl, I.turned (t' := s.toks) (fun b ob hb e => eb b ob hb e) f0 f1 f3 f4 f5⟩
  self := fun A i s Q E st h => by
    refine wpAny_pyIter_slot st.typeIs F.slot_dict_keyiterator_iter (wpAny_call_entry F.slot_dict_keyiterator_iter st.typeIs F.entry_dict_keyiterator_iter ?_ (F.args_dict_keyiterator_iter_1 _))
    show wpAny _ _ (ret (.ref it)) _ _ s
    exact wpAny_pure ⟨_, rfl, "dict_keyiterator", _, st.typeIs, F.slot_dict_keyiterator_next.lookup, h⟩
def iKeysN (td : TE) : TI := fun σ H R => td σ H fun x H1 => ∃ d o hs xs, x = .ref d ∧ H1 d = some (.frz o (dnO hs d xs)) ∧ R (Itn d o hs xs) H1
theorem pi_keysN {tg e : Expr} {td : TE} (he : PE X e td) : PI X tg e (iKeysN td) := by
  refine ⟨fun pins s σ H R I h => ?_⟩
  refine thn (he.run pins s σ H _ I h) fun u s1 ⟨x, H1, I1, rx, d, o, hs, xs, ex, hd, q⟩ => ?_
  subst ex
  obtain rfl : u = Value.ref d := rx
  obtain ⟨h1, hgd, hx, es, ep, hdt, hsz, ent⟩ := Inv.frzN I1 hd
  refine iter_keys h1 hgd hx hdt (pi_one (tk := s1.toks) I1 _ (turn_keysN _ hdt) ⟨_, Heap.get?_push_size _ rfl, rfl, ?_⟩ q)
  rw [hsz] <;> rfl
end
end DL

/-! DL21: dicts whose keys are tuples, as data. -/
namespace DL
open PySem PySem.Spec PyProof.Rows L2
abbrev NK := NestedKey
abbrev ND := List (NK × D)
def getN (kvs : ND) (k : NK) : Option D := (kvs.find? fun x => decide (x.1 = k)).map (·.2)
def putN (kvs : ND) (k : NK) (d : D) : ND := if (getN kvs k).isSome = true then kvs.map (fun x => if x.1 = k then (x.1, d) else x) else kvs ++ [(k, d)]
def mergeN (acc kvs : ND) : ND := kvs.foldl (fun acc x => putN acc x.1 x.2) acc
section
variable {K : PySem.W.Frag} {I : Hp}
theorem RepN.length : ∀ {ds : ND} {xs : List NX}, RepN K I ds xs → ds.length = xs.length
  | _, _, .nil => rfl
  | _, _, .cons _ _ _ t => congrArg (· + 1) (RepN.length t)
theorem RepN.keys : ∀ {ds : ND} {xs : List NX}, RepN K I ds xs → KeysOk K I xs
  | _, _, .nil => fun x hx => by cases hx
  | _, _, .cons h1 h2 _ t => fun x hx => by
    rcases List.mem_cons.mp hx with rfl | hx
    · exact ⟨h1, h2⟩
    · exact RepN.keys t x hx
theorem RepN.get {k : NK} : ∀ {ds : ND} {xs : List NX} {d : D}, RepN K I ds xs → getN ds k = some d → ∃ v, lookN xs k = some v ∧ Rep K I d v
  | _, _, _, .nil, e => by simp [getN] at e
  | _, _, d, .cons (k := j) h1 h2 h3 t, e => by
    by_cases z : j = k
    · simp only [getN, List.find?_cons, z, decide_true, Option.map_some, Option.some.injEq] at e
      subst e
      exact ⟨_, by simp [lookN, z], h3⟩
    · simp only [getN, List.find?_cons, z, decide_false] at e
      obtain ⟨v, q1, q2⟩ := RepN.get t e
      exact ⟨v, by simpa [lookN, z] using q1, q2⟩
theorem RepN.isSome {k : NK} : ∀ {ds : ND} {xs : List NX}, RepN K I ds xs → (lookN xs k).isSome = (getN ds k).isSome
  | _, _, .nil => rfl
  | _, _, .cons (k := j) h1 h2 h3 t => by
    by_cases z : j = k
    · simp [lookN, getN, z]
    · have := RepN.isSome (k := k) t
      simpa [lookN, getN, z] using this
theorem RepN.append : ∀ {ds es : ND} {xs ys : List NX}, RepN K I ds xs → RepN K I es ys → RepN K I (ds ++ es) (xs ++ ys)
  | _, _, _, _, .nil, q => q
  | _, _, _, _, .cons h1 h2 h3 t, q => .cons h1 h2 h3 (RepN.append t q)
theorem RepN.repl {k : NK} {d : D} {v : V} (r : Rep K I d v) : ∀ {ds : ND} {xs : List NX}, RepN K I ds xs → RepN K I (ds.map fun x => if x.1 = k then (x.1, d) else x) (xs.map fun x => if x.1 = k then (x.1, x.2.1, v) else x)
  | _, _, .nil => .nil
  | _, _, .cons (k := j) h1 h2 h3 t => by
    rw [List.map_cons, List.map_cons]
    dsimp only
    by_cases z : j = k
    · rw [if_pos z, if_pos z]; exact .cons h1 h2 r (RepN.repl r t)
    · rw [if_neg z, if_neg z]; exact .cons h1 h2 h3 (RepN.repl r t)
theorem RepN.put {k : NK} {b : Addr} {d : D} {v : V} {ds : ND} {xs : List NX} (h : RepN K I ds xs) (hk : k.depth ≤ 8) (hb : Rep K I (dOf k) (.ref b)) (r : Rep K I d v) : RepN K I (putN ds k d) (putX xs k b v) := by
  unfold putN putX
  rw [h.isSome]
  split
  · exact h.repl r
  · exact h.append (.cons hk hb r .nil)
theorem RepN.merge : ∀ {ds : ND} {xs : List NX} {acc : ND} {acx : List NX}, RepN K I ds xs → RepN K I acc acx → RepN K I (mergeN acc ds) (mergeX acx xs)
  | _, _, _, _, .nil, q => q
  | _, _, acc, acx, .cons (k := k) (b := b) (d := d) (v := v) (ds := ds) (xs := xs) h1 h2 h3 t, q => by
    show RepN K I (mergeN (putN acc k d) ds) (mergeX (putX acx k b v) xs)
    exact RepN.merge t (q.put h1 h2 h3)
end
theorem putN_len (kvs : ND) (k : NK) (d : D) : (putN kvs k d).length ≤ kvs.length + 1 := by
  unfold putN
  split <;> simp
/-- d is such a dict: a cell, or one that stays -/
def isN (hs : NK → Int) (W : Wd) (d : D) (kvs : ND) : Prop := d = .dn hs kvs ∨ ∃ a, d = .ref a ∧ W a = some (.dn hs kvs)
@[simp] theorem isN_ref {hs : NK → Int} {W : Wd} {a : Addr} {kvs : ND} : isN hs W (.ref a) kvs ↔ W a = some (.dn hs kvs) := by
  unfold isN
  constructor
  · rintro (h | ⟨b, h, q⟩)
    · cases h
    · cases h; exact q
  · exact fun h => .inr ⟨a, rfl, h⟩
@[simp] theorem isN_dn {hs : NK → Int} {W : Wd} {kvs kvs' : ND} : isN hs W (.dn hs kvs) kvs' ↔ kvs = kvs' := by
  unfold isN
  constructor
  · rintro (h | ⟨b, h, q⟩)
    · injection h
    · cases h
  · rintro rfl; exact .inl rfl
theorem cell_of {K : PySem.W.Frag} {Z I H : Hp} {W : Wd} {a : Addr} {hs : NK → Int} {kvs : ND} (S : SR K Z I W H) (h : W a = some (.dn hs kvs)) : ∃ xs, H a = some (dnO hs a xs) ∧ RepN K I kvs xs := (S.cell a _ h).2
theorem dn_of {K : PySem.W.Frag} {w : World} {Z I H : Hp} {W : Wd} {y : D} {u : V} {hs : NK → Int} {kvs : ND} (hh : ∀ k, hs k = NestedKey.hash w k) (S : SR K Z I W H) (r : Rep K I y u) (h : isN hs W y kvs) : ∃ d xs, u = .ref d ∧ IsDn K w H d xs ∧ RepN K I kvs xs := by
  have e : hs = fun k => NestedKey.hash w k := funext hh
  subst e
  rcases h with rfl | ⟨a, rfl, hW⟩
  · cases r with
    | @dn a o _ xs _ h1 h2 => exact ⟨a, xs, rfl, ⟨.inr ⟨o, S.imm _ _ h1⟩, (h2.mono S.imm).keys⟩, h2⟩
  · cases r
    obtain ⟨xs, h1, h2⟩ := cell_of S hW
    exact ⟨a, xs, rfl, ⟨.inl h1, (h2.mono S.imm).keys⟩, h2⟩
/-! keys -/
mutual
def nkOf : D → Option NK
  | .non => some .none
  | .int i => some (.num i)
  | .str x => some (.text x)
  | .tup xs => (nkOfs xs).map .tup
  | .bl _ => none
  | .lst _ => none
  | .dk _ => none
  | .ins _ _ => none
  | .scr _ => none
  | .ref _ => none
  | .dn _ _ => none
def nkOfs : List D → Option (List NK)
  | [] => some []
  | x :: xs => match nkOf x, nkOfs xs with
    | some k, some ks => some (k :: ks)
    | _, _ => none
end
mutual
theorem nkOf_d : ∀ (d : D) (k : NK), nkOf d = some k → d = dOf k
  | .non, k, h => by simp only [nkOf, Option.some.injEq] at h; subst h; rfl
  | .int i, k, h => by simp only [nkOf, Option.some.injEq] at h; subst h; rfl
  | .str x, k, h => by simp only [nkOf, Option.some.injEq] at h; subst h; rfl
  | .tup xs, k, h => by
    simp only [nkOf] at h
    cases e : nkOfs xs with
    | none => rw [e] at h; simp at h
    | some ks =>
      rw [e] at h
      simp only [Option.map_some, Option.some.injEq] at h
      subst h
      rw [nkOfs_d xs ks e]
      rfl
  | .bl _, _, h => by simp [nkOf] at h
  | .lst _, _, h => by simp [nkOf] at h
  | .dk _, _, h => by simp [nkOf] at h
  | .ins _ _, _, h => by simp [nkOf] at h
  | .scr _, _, h => by simp [nkOf] at h
  | .ref _, _, h => by simp [nkOf] at h
  | .dn _ _, _, h => by simp [nkOf] at h
theorem nkOfs_d : ∀ (ds : List D) (ks : List NK), nkOfs ds = some ks → ds = dOfs ks
  | [], ks, h => by simp only [nkOfs, Option.some.injEq] at h; subst h; rfl
  | x :: xs, ks, h => by
    simp only [nkOfs] at h
    split at h
    · rename_i k ks' e1 e2
      cases h
      rw [nkOf_d x k e1, nkOfs_d xs ks' e2]
      rfl
    · cases h
end
/-- the key that a tuple is -/
def keyD (d : D) (k : NK) : Prop := nkOf d = some k ∧ k.depth ≤ 8 ∧ ∃ xs, d = .tup xs
theorem keyD.rep {K : PySem.W.Frag} {I : Hp} {d : D} {v : V} {k : NK} (h : keyD d k) (r : Rep K I d v) : ∃ b, v = .ref b ∧ Rep K I (dOf k) (.ref b) := by
  obtain ⟨h1, h2, xs, h3⟩ := h
  have e := nkOf_d d k h1
  subst h3
  cases r with
  | @tup a vs _ q1 q2 => exact ⟨a, rfl, e ▸ .tup q1 q2⟩
/-! ### rules -/
def dInN (hs : NK → Int) (neg : Bool) : R2d := fun x y W Q => ∃ k, keyD x k ∧ ∃ kvs, isN hs W y kvs ∧ Q (.bl (neg != (getN kvs k).isSome)) W
@[simp ↓] theorem dInN_u (hs : NK → Int) (neg : Bool) : ∀ x y W Q, dInN hs neg x y W Q = (∃ k, keyD x k ∧ ∃ kvs, isN hs W y kvs ∧ Q (.bl (neg != (getN kvs k).isSome)) W) := fun _ _ _ _ => propext Iff.rfl
def dIxN (hs : NK → Int) : R2d := fun x y W Q => ∃ kvs, isN hs W x kvs ∧ ∃ k, keyD y k ∧ ∃ d, getN kvs k = some d ∧ Q d W
@[simp ↓] theorem dIxN_u (hs : NK → Int) : ∀ x y W Q, dIxN hs x y W Q = (∃ kvs, isN hs W x kvs ∧ ∃ k, keyD y k ∧ ∃ d, getN kvs k = some d ∧ Q d W) := fun _ _ _ _ => propext Iff.rfl
def dSetN (hs : NK → Int) : D → D → D → Wd → (Wd → Prop) → Prop := fun o i d W Q => ∃ a kvs k, o = .ref a ∧ W a = some (.dn hs kvs) ∧ keyD i k ∧ kvs.length < sizeLine ∧ Q (updW W a (.dn hs (putN kvs k d)))
@[simp ↓] theorem dSetN_u (hs : NK → Int) : ∀ o i d W Q, dSetN hs o i d W Q = (∃ a kvs k, o = .ref a ∧ W a = some (.dn hs kvs) ∧ keyD i k ∧ kvs.length < sizeLine ∧ Q (updW W a (.dn hs (putN kvs k d)))) := fun _ _ _ _ _ => propext Iff.rfl
def tsDn (hs : NK → Int) (to_ ti te : TD) : TSd := fun D ρ W => te ρ W (fun d W1 => to_ ρ W1 (fun o W2 => ti ρ W2 (fun i W3 => dSetN hs o i d W3 (D.nx ρ)) D.ex) D.ex) D.ex
@[simp ↓] theorem tsDn_u (hs : NK → Int) (to_ ti te : TD) : ∀ D ρ W, tsDn hs to_ ti te D ρ W = (te ρ W (fun d W1 => to_ ρ W1 (fun o W2 => ti ρ W2 (fun i W3 => dSetN hs o i d W3 (D.nx ρ)) D.ex) D.ex) D.ex) := fun _ _ _ => propext Iff.rfl
def dLenN (hs : NK → Int) : RCd := fun xs W Q => ∃ x kvs, xs = [x] ∧ isN hs W x kvs ∧ Q (.int (kvs.length : Nat)) W
@[simp ↓] theorem dLenN_u (hs : NK → Int) : ∀ xs W Q, dLenN hs xs W Q = (∃ x kvs, xs = [x] ∧ isN hs W x kvs ∧ Q (.int (kvs.length : Nat)) W) := fun _ _ _ => propext Iff.rfl
section
variable {X : Cx} {E : XK} {j : Nat} {pos : Pos} {o i e a b : Expr} {to_ ti te ta tb : TD} {hs : NK → Int}
theorem od_inN (hh : ∀ k, hs k = NestedKey.hash X.w k) (hu : X.A.units + 65 < cLine) : OpD X (compareOp .In) (dInN hs false) := by
  refine ⟨_, op_inN hu, fun {Z I W H x y v u Qd Q} S rx ry h sv => ?_⟩
  obtain ⟨k, hk, kvs, hN, q⟩ := h
  obtain ⟨d, xs, rfl, hd, rn⟩ := dn_of hh S ry hN
  obtain ⟨bb, rfl, hb⟩ := hk.rep rx
  refine ⟨d, bb, k, xs, rfl, rfl, hd, hk.2.1, hb.mono S.imm, ?_⟩
  rw [rn.isSome]
  exact sv _ W _ I H (Same.refl I) S (.bl _) q
theorem od_notInN (hh : ∀ k, hs k = NestedKey.hash X.w k) (hu : X.A.units + 65 < cLine) : OpD X (compareOp .NotIn) (dInN hs true) := by
  refine ⟨_, op_notInN hu, fun {Z I W H x y v u Qd Q} S rx ry h sv => ?_⟩
  obtain ⟨k, hk, kvs, hN, q⟩ := h
  obtain ⟨d, xs, rfl, hd, rn⟩ := dn_of hh S ry hN
  obtain ⟨bb, rfl, hb⟩ := hk.rep rx
  refine ⟨d, bb, k, xs, rfl, rfl, hd, hk.2.1, hb.mono S.imm, ?_⟩
  rw [rn.isSome]
  exact sv _ W _ I H (Same.refl I) S (.bl _) q
theorem de_ixN (hh : ∀ k, hs k = NestedKey.hash X.w k) (c : Ct X E j) (ha : DE X E a ta) (hb : DE X E b tb) (hp : PlainIx b := by exact fun _ _ => rfl) : DE X E (.Subscript a b pos) (tdOp (dIxN hs) ta tb) := by
  obtain ⟨t1, p1, d1⟩ := ha.ex
  obtain ⟨t2, p2, d2⟩ := hb.ex
  refine ⟨_, pe_ix (ix_dn c.u65) p1 p2 hp, den_op d1 d2 fun {Z I W H x y v u Qd Q} S rx ry h sv => ?_⟩
  obtain ⟨kvs, hN, k, hk, d, hg, q⟩ := h
  obtain ⟨dd, xs, rfl, hd, rn⟩ := dn_of hh S rx hN
  obtain ⟨bb, rfl, hb⟩ := hk.rep ry
  obtain ⟨w, hw, rw'⟩ := rn.get hg
  exact ⟨dd, bb, k, xs, w, rfl, rfl, hd, hk.2.1, hb.mono S.imm, hw, sv _ W _ I H (Same.refl I) S rw' q⟩
theorem ds_dn {tpos : Pos} (hh : ∀ k, hs k = NestedKey.hash X.w k) (c : Ct X E j) (ho : DE X E o to_) (hi : DE X E i ti) (he : DE X E e te) (hsw : swapsWithSole [.Subscript o i tpos] e pos.line X.env = pure false := by rfl) (hw : swappedStores [.Subscript o i tpos] e X.env = pure none := by rfl)
    (h1 : (assignEach [.Subscript o i tpos] X.env).map (·.2) = [assign (.Subscript o i tpos) X.env] := by rfl)
    (ha : ∀ v, assign (.Subscript o i tpos) X.env v = (do
      let ov ← holding [v] (eval o X.env)
      let iv ← holding [v, ov] (eval i X.env)
      standAt tpos
      holding [v, ov, iv] (setItem ov iv v)
      release [v, ov, iv] []) := by intro _; rfl) : DS X E (.Assign [.Subscript o i tpos] e pos) (tsDn hs to_ ti te) := by
  have eh : hs = fun k => NestedKey.hash X.w k := funext hh
  subst eh
  obtain ⟨t0, p0, d0⟩ := ho.ex
  obtain ⟨t1, p1, d1⟩ := hi.ex
  obtain ⟨t2, p2, d2⟩ := he.ex
  refine ⟨_, ps_asg p2 (pg_sub p0 p1 (set_dn c.u65) ha) hsw hw h1, fun {Z I W H σ ρ Dd D} S R h k => ?_⟩
  refine d2 S R h (fun d W1 v I1 H1 e1 S1 r1 h1 => ?_) k.ex
  refine d0 S1 (R.mono e1) h1 (fun o W2 ov I2 H2 e2 S2 r2 h2 => ?_) (k.ex.mono e1)
  have e12 := e1.trans e2
  refine d1 S2 (R.mono e12) h2 (fun i W3 iv I3 H3 e3 S3 r3 h3 => ?_) (k.ex.mono e12)
  have e13 := e12.trans e3
  obtain ⟨a, kvs, kk, rfl, hW, hk, hl, q⟩ := h3
  have r2' := r2.mono e3
  cases r2'
  obtain ⟨bb, rfl, hb⟩ := hk.rep r3
  obtain ⟨hI, xs, hH, rn⟩ := S3.cell a _ hW
  have hlen := rn.length
  refine ⟨a, bb, kk, xs, rfl, rfl, hH, (rn.mono S3.imm).keys, hk.2.1, hb.mono S3.imm, by omega, ?_⟩
  exact k.nx ρ _ σ I3 _ e13 (S3.put hI (S3.noZ hW) (c := .dn _ (putN kvs kk d)) ⟨_, upd_same, rn.put hk.2.1 hb (r1.mono (e2.trans e3))⟩) (R.mono e13) q
theorem cd_lenN (hh : ∀ k, hs k = NestedKey.hash X.w k) : CallD X (.builtin "len") (dLenN hs) := by
  refine ⟨_, call_lenN, fun {Z I W H xs vs Qd Q} S r h sv => ?_⟩
  obtain ⟨x, kvs, rfl, hN, q⟩ := h
  obtain ⟨v, rfl, rx⟩ := rep1 r
  obtain ⟨d, xs, rfl, hd, rn⟩ := dn_of hh S rx hN
  refine ⟨d, xs, rfl, hd, ?_⟩
  rw [← rn.length]
  exact sv _ W _ I H (Same.refl I) S (.int _) q
/-- {} -/
def tdDisp0N (hs : NK → Int) : TD := fun _ W Q _ => ∀ p, W p = none → Q (.ref p) (updW W p (.dn hs []))
@[simp ↓] theorem tdDisp0N_u (hs : NK → Int) : ∀ ρ W Q E, tdDisp0N hs ρ W Q E = (∀ p, W p = none → Q (.ref p) (updW W p (.dn hs []))) := fun _ _ _ _ => propext Iff.rfl
theorem de_disp0N (hh : ∀ k, hs k = NestedKey.hash X.w k) : DE X E (.Dict [] [] pos) (tdDisp0N hs) := by
  have eh : hs = fun k => NestedKey.hash X.w k := funext hh
  subst eh
  refine ⟨_, pe_dnewN, fun {Z I W H σ ρ Qd Ed Q} S R h sv sx => ?_⟩
  intro p hp
  exact sv _ _ _ I _ (Same.refl I) (S.put (S.newI hp) (S.newZ hp) (o := dnO _ p []) (c := .dn _ []) ⟨[], upd_same, .nil⟩) (.ref p) (h p (S.newW hp))
/-- {k: v} -/
def tdDisp1N (hs : NK → Int) (tk tv : TD) : TD := fun ρ W Q E => tk ρ W (fun x W1 => tv ρ W1 (fun y W2 => ∃ k, keyD x k ∧ ∀ p, W2 p = none → Q (.ref p) (updW W2 p (.dn hs [(k, y)]))) E) E
@[simp ↓] theorem tdDisp1N_u (hs : NK → Int) (tk tv : TD) : ∀ ρ W Q E, tdDisp1N hs tk tv ρ W Q E = (tk ρ W (fun x W1 => tv ρ W1 (fun y W2 => ∃ k, keyD x k ∧ ∀ p, W2 p = none → Q (.ref p) (updW W2 p (.dn hs [(k, y)]))) E) E) := fun _ _ _ _ => propext Iff.rfl
theorem simX_hide {K : PySem.W.Frag} {Z I : Hp} {p : Addr} {o : HO} {Ed : XD} {E : XK} (hZ : Z p = none) (sx : SimX K Z I Ed E) : SimX K (upd Z p o) I Ed E := fun C fs W I' H' dx fv e S r a q => by
  refine sx C fs W I' H' dx fv e ⟨S.imm, S.cell, fun a o ha => ?_⟩ r a.unhide q
  have ne : a ≠ p := ne_of_none ha hZ
  exact S.fr a o (by rw [upd_ne ne]; exact ha)
theorem de_disp1N (hh : ∀ k, hs k = NestedKey.hash X.w k) (c : Ct X E j) (hk : DE X E a ta) (hv : DE X E b tb) : DE X E (.Dict [some a] [b] pos) (tdDisp1N hs ta tb) := by
  have eh : hs = fun k => NestedKey.hash X.w k := funext hh
  subst eh
  obtain ⟨t1, p1, d1⟩ := hk.ex
  obtain ⟨t2, p2, d2⟩ := hv.ex
  refine ⟨_, pe_disp1N c.u65 p1 p2, fun {Z I W H σ ρ Qd Ed Q} S R h sv sx => ?_⟩
  intro p hp
  have hZ := S.newZ hp
  have S1 := S.hide hp (dnO (fun k => NestedKey.hash X.w k) p [])
  show t1 σ _ _
  refine d1 S1 R h (fun x W1 v I1 H1 e1 S2 r1 h1 => ?_) (simX_hide hZ sx)
  refine d2 S2 (R.mono e1) h1 (fun y W2 u I2 H2 e2 S3 r2 h2 => ?_) ((simX_hide hZ sx).mono e1)
  obtain ⟨k, hk, q⟩ := h2
  obtain ⟨q1, q2, q3⟩ := S3.hidden
  obtain ⟨bb, rfl, hb⟩ := hk.rep (r1.mono e2)
  refine ⟨_, _, rfl, q1, k, bb, rfl, hk.2.1, hb.mono S3.imm, ?_⟩
  have S4 := S3.rehide (dnO (fun k => NestedKey.hash X.w k) p [(k, bb, u)])
  exact sv _ _ _ I2 _ (e1.trans e2) (S4.unhideM (c := .dn _ [(k, y)]) hZ ⟨_, upd_same, .cons hk.2.1 hb r2 .nil⟩) (.ref p) (q p q3)
end
end DL

/-! DL22: such dicts that stay; dict(pairs), get, sorted, walks. -/
namespace DL
open PySem PySem.Spec PyProof.Rows L2
open PySem.W (dataLe AllAlike Sortable sort_maps)
/-- the dict that comes stays as it is from here on -/
def tFrzN (t : TE) : TE := fun σ H Q => t σ H fun v H1 => ∃ d hs xs, v = .ref d ∧ H1 d = some (dnO hs d xs) ∧ ∀ o, Q v (upd H1 d (.frz o (dnO hs d xs)))
theorem pe_frzN {X : Cx} {e : Expr} {t : TE} (h : PE X e t) : PE X e (tFrzN t) := by
  refine ⟨fun pins s σ H Q I q => ?_⟩
  refine thn (h.run pins s σ H _ I q) fun u s1 ⟨v, H1, I1, r, d, hs, xs, ev, hd, q1⟩ => ?_
  obtain ⟨od, I2⟩ := I1.lock hd trivial
  exact ⟨v, _, I2, r, q1 od⟩
/-- a thing that stays from now on, another one in its place -/
theorem SR.freeze2 {K : PySem.W.Frag} {Z I H : Hp} {W : Wd} {p : Addr} {o o' : HO} (S : SR K Z I W H) (h : H p = some o) (hI : I p = none) (hW : ∃ c, W p = some c) : SR K Z (upd I p o') (delW W p) (upd H p o') ∧ Same I (upd I p o') := by
  obtain ⟨c0, hW⟩ := hW
  have hZ := S.noZ hW
  refine ⟨⟨fun b u e => ?_, fun b c e => ?_, fun b u e => ?_⟩, same_upd hI⟩
  · by_cases hb : b = p
    · subst hb; rw [upd_same] at e ⊢; exact e
    · rw [upd_ne hb] at e ⊢; exact S.imm b u e
  · by_cases hb : b = p
    · subst hb; rw [delW_same] at e; cases e
    · rw [delW_ne hb] at e
      obtain ⟨h1, h2⟩ := S.cell b c e
      exact ⟨by rw [upd_ne hb]; exact h1, h2.mono (same_upd hI) fun u q => by rw [upd_ne hb]; exact q⟩
  · have hb : b ≠ p := ne_of_none e hZ
    obtain ⟨h1, h2, h3⟩ := S.fr b u e
    exact ⟨by rw [upd_ne hb]; exact h1, by rw [upd_ne hb]; exact h2, by rw [delW_ne hb]; exact h3⟩
def tdFrzN (hs : NK → Int) (ta : TD) : TD := fun ρ W Q E => ta ρ W (fun d W1 => ∃ p kvs, d = .ref p ∧ W1 p = some (.dn hs kvs) ∧ Q (.dn hs kvs) (delW W1 p)) E
@[simp ↓] theorem tdFrzN_u (hs : NK → Int) (ta : TD) : ∀ ρ W Q E, tdFrzN hs ta ρ W Q E = (ta ρ W (fun d W1 => ∃ p kvs, d = .ref p ∧ W1 p = some (.dn hs kvs) ∧ Q (.dn hs kvs) (delW W1 p)) E) := fun _ _ _ _ => propext Iff.rfl
def dDictN (hs : NK → Int) : RCd := fun xs W Q => ∃ x kvs, xs = [x] ∧ viewW W x = .lst (kvs.map fun p => .tup [dOf p.1, p.2]) ∧ (∀ p ∈ kvs, p.1.depth ≤ 8 ∧ ∃ ks, p.1 = .tup ks) ∧ ∀ p, W p = none → Q (.ref p) (updW W p (.dn hs (mergeN [] kvs)))
@[simp ↓] theorem dDictN_u (hs : NK → Int) : ∀ xs W Q, dDictN hs xs W Q = (∃ x kvs, xs = [x] ∧ viewW W x = .lst (kvs.map fun p => .tup [dOf p.1, p.2]) ∧ (∀ p ∈ kvs, p.1.depth ≤ 8 ∧ ∃ ks, p.1 = .tup ks) ∧ ∀ p, W p = none → Q (.ref p) (updW W p (.dn hs (mergeN [] kvs)))) := fun _ _ _ => propext Iff.rfl
theorem pairs_rep {K : PySem.W.Frag} {I H : Hp} (e : Same I H) : ∀ {kvs : ND} {vs : List V}, RepL K I (kvs.map fun p => D.tup [dOf p.1, p.2]) vs → (∀ p ∈ kvs, p.1.depth ≤ 8 ∧ ∃ ks, p.1 = .tup ks) → ∃ (ps : List Addr) (xs : List NX), vs = ps.map V.ref ∧ PairsN K H ps xs ∧ RepN K I kvs xs
  | [], _, .nil, _ => ⟨[], [], rfl, .nil, .nil⟩
  | p :: kvs, _, .cons (v := v) r t, h => by
    obtain ⟨ps, xs, rfl, h2, h3⟩ := pairs_rep e t fun q hq => h q (List.mem_cons_of_mem _ hq)
    obtain ⟨hd, ks, hk⟩ := h p List.mem_cons_self
    obtain ⟨k, d⟩ := p
    simp only at hk hd
    subst hk
    cases r with
    | @tup a vs' _ q1 q2 =>
      cases q2 with
      | cons r1 t1 =>
        cases t1 with
        | cons r2 t2 =>
          cases t2
          simp only [dOf] at r1
          cases r1 with
          | @tup b us _ z1 z2 =>
            refine ⟨a :: ps, (.tup ks, b, _) :: xs, rfl, .cons (sqT_same e q1) h2, .cons hd ?_ r2 h3⟩
            simp only [dOf]
            exact .tup z1 z2
section
variable {X : Cx} {E : XK} {j : Nat} {pos : Pos} {o i e a b : Expr} {td te ta tb : TD} {hs : NK → Int} {tg : Expr}
theorem de_frzN (h : DE X E e td) : DE X E e (tdFrzN hs td) := by
  obtain ⟨t1, p1, d1⟩ := h.ex
  refine ⟨_, pe_frzN p1, fun {Z I W H σ ρ Qd Ed Q} S R h sv sx => ?_⟩
  refine d1 S R h (fun d W1 v I1 H1 e1 S1 r1 h1 => ?_) sx
  obtain ⟨p, kvs, rfl, hp, q⟩ := h1
  cases r1
  obtain ⟨hI, xs, hH, rn⟩ := S1.cell p _ hp
  refine ⟨p, hs, xs, rfl, hH, fun od => ?_⟩
  obtain ⟨S2, e2⟩ := S1.freeze2 (o' := .frz od (dnO hs p xs)) hH hI ⟨_, hp⟩
  exact sv _ _ _ _ _ (e1.trans e2) S2 (.dn upd_same (rn.mono e2)) q
theorem cd_dictN (hh : ∀ k, hs k = NestedKey.hash X.w k) (c : Ct X E j) : CallD X (.type "dict") (dDictN hs) := by
  have eh : hs = fun k => NestedKey.hash X.w k := funext hh
  subst eh
  refine ⟨_, call_dictN c.calm c.u65, fun {Z I W H xs vs Qd Q} S r h sv => ?_⟩
  obtain ⟨x, kvs, rfl, hv, hk, q⟩ := h
  obtain ⟨v, rfl, rx⟩ := rep1 r
  obtain ⟨l, us, rfl, hH, rl⟩ := lst_view S rx hv
  obtain ⟨ps, xs, rfl, h2, h3⟩ := pairs_rep S.imm rl hk
  refine ⟨l, ps, xs, rfl, .inl (.inl hH), h2, (h3.mono S.imm).keys, fun p hp => ?_⟩
  exact sv _ _ _ I _ (Same.refl I) (S.put (S.newI hp) (S.newZ hp) (o := dnO _ p _) (c := .dn _ (mergeN [] kvs)) ⟨_, upd_same, h3.merge .nil⟩) (.ref p) (q p (S.newW hp))
/-! get -/
def ty_get (hs : NK → Int) (x : D) (W : Wd) : Prop := ∃ kvs, isN hs W x kvs
def dGetN (hs : NK → Int) : RMd := fun x ds W Q => ∃ y z k kvs, ds = [y, z] ∧ isN hs W x kvs ∧ keyD y k ∧ Q ((getN kvs k).getD z) W
@[simp ↓] theorem dGetN_u (hs : NK → Int) : ∀ x ds W Q, dGetN hs x ds W Q = (∃ y z k kvs, ds = [y, z] ∧ isN hs W x kvs ∧ keyD y k ∧ Q ((getN kvs k).getD z) W) := fun _ _ _ _ => propext Iff.rfl
/-! sorted -/
def dSortD : RCd := fun xs W Q => ∃ x ds, xs = [x] ∧ viewW W x = .lst ds ∧ (∀ d ∈ ds, okD 8 d = true) ∧ AllAlike (ds.map toPy) ∧ Sortable (ds.map toPy) ∧ Q (.lst (ds.mergeSort (dataLe false toPy))) W
@[simp ↓] theorem dSortD_u : ∀ xs W Q, dSortD xs W Q = (∃ x ds, xs = [x] ∧ viewW W x = .lst ds ∧ (∀ d ∈ ds, okD 8 d = true) ∧ AllAlike (ds.map toPy) ∧ Sortable (ds.map toPy) ∧ Q (.lst (ds.mergeSort (dataLe false toPy))) W) := fun _ _ _ => propext Iff.rfl
def dSortN (hs : NK → Int) : RCd := fun xs W Q => ∃ x kvs, xs = [x] ∧ isN hs W x kvs ∧ (∀ p ∈ kvs, okD 8 (dOf p.1) = true) ∧ AllAlike (kvs.map fun p => toPy (dOf p.1)) ∧ Sortable (kvs.map fun p => toPy (dOf p.1)) ∧ Q (.lst ((kvs.map fun p => dOf p.1).mergeSort (dataLe false toPy))) W
@[simp ↓] theorem dSortN_u (hs : NK → Int) : ∀ xs W Q, dSortN hs xs W Q = (∃ x kvs, xs = [x] ∧ isN hs W x kvs ∧ (∀ p ∈ kvs, okD 8 (dOf p.1) = true) ∧ AllAlike (kvs.map fun p => toPy (dOf p.1)) ∧ Sortable (kvs.map fun p => toPy (dOf p.1)) ∧ Q (.lst ((kvs.map fun p => dOf p.1).mergeSort (dataLe false toPy))) W) := fun _ _ _ => propext Iff.rfl
theorem repL_maps {α : Type} {K : PySem.W.Frag} {I : Hp} {f : α → D} {g : α → V} : ∀ {zs : List α}, (∀ z ∈ zs, Rep K I (f z) (g z)) → RepL K I (zs.map f) (zs.map g)
  | [], _ => .nil
  | z :: zs, h => .cons (h z List.mem_cons_self) (repL_maps fun y hy => h y (List.mem_cons_of_mem _ hy))
theorem repL_zip {K : PySem.W.Frag} {I : Hp} : ∀ {ds : List D} {vs : List V}, RepL K I ds vs → ∃ zs : List (D × V), zs.map (·.1) = ds ∧ zs.map (·.2) = vs ∧ ∀ z ∈ zs, Rep K I z.1 z.2
  | _, _, .nil => ⟨[], rfl, rfl, fun z hz => by cases hz⟩
  | _, _, .cons (d := d) (v := v) r t => by
    obtain ⟨zs, h1, h2, h3⟩ := repL_zip t
    refine ⟨(d, v) :: zs, by simp [h1], by simp [h2], fun z hz => ?_⟩
    rcases List.mem_cons.mp hz with rfl | hz
    · exact r
    · exact h3 z hz
theorem repN_zip {K : PySem.W.Frag} {I : Hp} : ∀ {ds : ND} {xs : List NX}, RepN K I ds xs → ∃ zs : List ((NK × D) × NX), zs.map (·.1) = ds ∧ zs.map (·.2) = xs ∧ ∀ z ∈ zs, z.1.1 = z.2.1 ∧ Rep K I (dOf z.1.1) (.ref z.2.2.1)
  | _, _, .nil => ⟨[], rfl, rfl, fun z hz => by cases hz⟩
  | _, _, .cons (k := k) (b := b) (d := d) (v := v) h1 h2 h3 t => by
    obtain ⟨zs, q1, q2, q3⟩ := repN_zip t
    refine ⟨((k, d), (k, b, v)) :: zs, by simp [q1], by simp [q2], fun z hz => ?_⟩
    rcases List.mem_cons.mp hz with rfl | hz
    · exact ⟨rfl, h2⟩
    · exact q3 z hz
theorem cd_sortD (c : Ct X E j) : CallD X (.builtin "sorted") dSortD := by
  refine ⟨_, call_sortD c.u65, fun {Z I W H xs vs Qd Q} S r h sv => ?_⟩
  obtain ⟨x, ds, rfl, hv, hok, hal, hk, q⟩ := h
  obtain ⟨v, rfl, rx⟩ := rep1 r
  obtain ⟨l, us, rfl, hH, rl⟩ := lst_view S rx hv
  obtain ⟨zs, rfl, rfl, hz⟩ := repL_zip rl
  refine ⟨l, zs.map fun z => (z.2, toPy z.1), rfl, by rw [List.map_map]; exact .inl (.inl hH), fun b hb => ?_, by simpa [List.map_map, Function.comp_def] using hal, by simpa [List.map_map, Function.comp_def] using hk, fun b hb => ?_, fun p hp => ?_⟩
  · obtain ⟨z, hz', rfl⟩ := List.mem_map.mp hb
    exact dp_of S.imm 8 _ _ (hz z hz') (hok _ (List.mem_map.mpr ⟨z, hz', rfl⟩))
  · obtain ⟨z, hz', rfl⟩ := List.mem_map.mp hb
    exact (okD_lay 8 _ (hok _ (List.mem_map.mpr ⟨z, hz', rfl⟩))).2
  · have e1 : ((zs.map fun z => (z.2, toPy z.1)).mergeSort (dataLe false (·.2))).map (·.1) = (zs.mergeSort (dataLe false fun z => toPy z.1)).map (·.2) := by
      rw [← sort_maps (r := dataLe false fun z : D × V => toPy z.1) (s := dataLe false (·.2)) (fun z : D × V => (z.2, toPy z.1)) (fun _ _ _ _ => rfl), List.map_map]
      rfl
    have e2 : (zs.map (·.1)).mergeSort (dataLe false toPy) = (zs.mergeSort (dataLe false fun z => toPy z.1)).map (·.1) := by
      rw [sort_maps (r := dataLe false fun z : D × V => toPy z.1) (s := dataLe false toPy) (fun z : D × V => z.1) (fun _ _ _ _ => rfl)]
    rw [e1]
    rw [e2] at q
    exact sim_lst S (repL_maps fun z hz' => hz z ((List.mergeSort_perm _ _).mem_iff.mp hz')) sv hp q
theorem cd_sortN (hh : ∀ k, hs k = NestedKey.hash X.w k) (c : Ct X E j) : CallD X (.builtin "sorted") (dSortN hs) := by
  refine ⟨_, call_sortN c.calm c.u65, fun {Z I W H xs vs Qd Q} S r h sv => ?_⟩
  obtain ⟨x, kvs, rfl, hN, hok, hal, hk, q⟩ := h
  obtain ⟨v, rfl, rx⟩ := rep1 r
  obtain ⟨d, xs, rfl, hd, rn⟩ := dn_of hh S rx hN
  obtain ⟨zs, rfl, rfl, hz⟩ := repN_zip rn
  have ek : ∀ {β : Type} (f : NK → β), (zs.map (·.2)).map (fun x : NX => f x.1) = (zs.map (·.1)).map (fun p => f p.1) := fun f => by
    rw [List.map_map, List.map_map]
    exact List.map_congr_left fun z hz' => by show f z.2.1 = f z.1.1; rw [(hz z hz').1]
  refine ⟨d, zs.map (·.2), rfl, hd, fun y hy => ?_, by rw [ek keyP]; exact hal, by rw [ek keyP]; exact hk, fun p hp => ?_⟩
  · obtain ⟨z, hz', rfl⟩ := List.mem_map.mp hy
    rw [← (hz z hz').1]
    exact hok _ (List.mem_map.mpr ⟨z, hz', rfl⟩)
  · have e1 : ((zs.map (·.2)).mergeSort (dataLe false fun x : NX => keyP x.1)).map (fun x => V.ref x.2.1) = (zs.mergeSort (dataLe false fun z => keyP z.2.1)).map (fun z => V.ref z.2.2.1) := by
      rw [← sort_maps (r := dataLe false fun z : (NK × D) × NX => keyP z.2.1) (s := dataLe false fun x : NX => keyP x.1) (fun z : (NK × D) × NX => z.2) (fun _ _ _ _ => rfl), List.map_map]
      rfl
    have e2 : ((zs.map (·.1)).map fun p => dOf p.1).mergeSort (dataLe false toPy) = (zs.mergeSort (dataLe false fun z => keyP z.2.1)).map (fun z => dOf z.1.1) := by
      rw [List.map_map, sort_maps (r := dataLe false fun z : (NK × D) × NX => keyP z.2.1) (s := dataLe false toPy) (fun z : (NK × D) × NX => dOf z.1.1) (fun a ha b hb => by
        show dataLe false (fun z : (NK × D) × NX => keyP z.2.1) a b = dataLe false toPy (dOf a.1.1) (dOf b.1.1)
        unfold dataLe keyP
        rw [(hz a ha).1, (hz b hb).1]
        rfl)]
      rfl
    rw [e1]
    rw [e2] at q
    exact sim_lst S (repL_maps fun z hz' => (hz z ((List.mergeSort_perm _ _).mem_iff.mp hz')).2) sv hp q
/-! for k in d, d one that stays -/
def tiKeysN (hs : NK → Int) (te : TD) : TId := fun ρ W R E => te ρ W (fun x W1 => ∃ kvs, x = .dn hs kvs ∧ R (kvs.map fun p => dOf p.1) (fun _ => True) W1) E
@[simp ↓] theorem tiKeysN_u (hs : NK → Int) (te : TD) : ∀ ρ W R E, tiKeysN hs te ρ W R E = (te ρ W (fun x W1 => ∃ kvs, x = .dn hs kvs ∧ R (kvs.map fun p => dOf p.1) (fun _ => True) W1) E) := fun _ _ _ _ => propext Iff.rfl
theorem RepN.at {K : PySem.W.Frag} {I : Hp} : ∀ {ds : ND} {xs : List NX} {i : Nat} {q : NX}, RepN K I ds xs → xs[i]? = some q → ∃ p, ds[i]? = some p ∧ Rep K I (dOf p.1) (.ref q.2.1)
  | _, _, _, _, .nil, e => by simp at e
  | _, _, 0, _, .cons h1 h2 h3 t, e => by simp at e; subst e; exact ⟨_, rfl, h2⟩
  | _, _, i + 1, _, .cons h1 h2 h3 t, e => by
    obtain ⟨p, q1, q2⟩ := RepN.at (i := i) t (by simpa using e)
    exact ⟨p, by simpa using q1, q2⟩
theorem iter_dn {K : PySem.W.Frag} {I : Hp} {a : Addr} {ob : Obj} {xs : List NX} {kvs : ND} (h : I a = some (.frz ob (dnO hs a xs))) (r : RepN K I kvs xs) : Iter K I (kvs.map fun p => dOf p.1) (fun _ => True) (Itn a ob hs xs) := by
  have hl := r.length
  refine ⟨fun i Z I' W H hi e S _ => ⟨S.imm _ _ (e _ _ h), by rw [List.length_map] at hi; omega⟩, fun i d Z I' W H x H' hd e S _ y => ?_, fun Z I' W H e S _ => ⟨S.imm _ _ (e _ _ h), by rw [List.length_map]; omega⟩⟩
  obtain ⟨rfl, q, hq, rfl⟩ := y
  obtain ⟨p, e1, e2⟩ := r.at hq
  rw [List.getElem?_map, e1] at hd
  cases hd
  exact ⟨I', Same.refl _, S, e2.mono e⟩
theorem di_keysN (he : DE X E e te) : DI X E tg e (tiKeysN hs te) := by
  obtain ⟨t1, p1, d1⟩ := he.ex
  refine ⟨_, pi_keysN p1, fun {Z I W H σ ρ Rd Ed R} S R0 h k sx => ?_⟩
  refine d1 S R0 h (fun x W1 v I1 H1 e1 S1 r1 h1 => ?_) sx
  obtain ⟨kvs, rfl, q⟩ := h1
  cases r1 with
  | @dn a ob _ xs _ h1 h2 => exact ⟨a, ob, hs, xs, rfl, S1.imm _ _ h1, k _ _ W1 I1 H1 _ e1 S1 (iter_dn h1 h2) q⟩
end
end DL

/-! DL23: a dict that stays as it is from behind a statement on. -/
namespace DL
open PySem PySem.Spec PyProof.Rows L2
def tsLock (t : TS) : TS := fun D σ H => t { D with nx := fun σ1 H1 => ∃ d hs xs, H1 d = some (dnO hs d xs) ∧ ∀ o, D.nx σ1 (upd H1 d (.frz o (dnO hs d xs))) } σ H
theorem ps_lock {X : Cx} {st : Stmt} {t : TS} (h : PS X st t) : PS X st (tsLock t) := by
  refine ⟨fun pins s σ H D I q => ?_⟩
  refine thn (h.run pins s σ H _ I q) fun f s1 r => ?_
  cases f with
  | next =>
    obtain ⟨σ', H', I1, d, hs, xs, hd, q1⟩ := r
    obtain ⟨od, I2⟩ := I1.lock hd trivial
    exact ⟨σ', _, I2, q1 od⟩
  | brk => exact r
  | cont => exact r
  | ret u => exact r
theorem setS_env {K : PySem.W.Frag} {I : Hp} {d : D} {v : V} (r : Rep K I d v) {σ : L2.St} {ρ : DEnv} {i : Nat} (R : EnvR K I σ ρ) (h : σ[i]? = some (some v)) : EnvR K I σ (setS ρ i d) := by
  have := EnvR.set r i R
  rwa [show σ.set i (some v) = σ from by
    obtain ⟨hi, e⟩ := List.getElem?_eq_some_iff.mp h
    rw [← e, List.set_getElem_self]] at this
/-- behind it slot i's dict stays -/
def tsFrzN (hs : NK → Int) (i : Nat) (t : TSd) : TSd := fun D ρ W => t { D with nx := fun ρ1 W1 => ∃ p kvs, getS ρ1 i = some (.ref p) ∧ W1 p = some (.dn hs kvs) ∧ D.nx (setS ρ1 i (.dn hs kvs)) (delW W1 p) } ρ W
@[simp ↓] theorem tsFrzN_u (hs : NK → Int) (i : Nat) (t : TSd) : ∀ D ρ W, tsFrzN hs i t D ρ W = (t { D with nx := fun ρ1 W1 => ∃ p kvs, getS ρ1 i = some (.ref p) ∧ W1 p = some (.dn hs kvs) ∧ D.nx (setS ρ1 i (.dn hs kvs)) (delW W1 p) } ρ W) := fun _ _ _ => propext Iff.rfl
theorem ds_frzN {X : Cx} {E : XK} {st : Stmt} {t : TSd} {hs : NK → Int} {i : Nat} (h : DS X E st t) : DS X E st (tsFrzN hs i t) := by
  obtain ⟨t1, p1, d1⟩ := h.ex
  refine ⟨_, ps_lock p1, fun {Z I W H σ ρ Dd D} S R h k => ?_⟩
  refine d1 S R h ⟨fun ρ' W' σ' I' H' e S' R' h' => ?_, k.rt, k.bk, k.ct, k.ex⟩
  obtain ⟨p, kvs, hg, hp, q⟩ := h'
  obtain ⟨v, hv, rv⟩ := R'.get hg
  cases rv
  obtain ⟨hI, xs, hH, rn⟩ := S'.cell p _ hp
  refine ⟨p, hs, xs, hH, fun od => ?_⟩
  obtain ⟨S2, e2⟩ := S'.freeze2 (o' := .frz od (dnO hs p xs)) hH hI ⟨_, hp⟩
  exact k.nx _ _ _ _ _ (e.trans e2) S2 (setS_env (.dn upd_same (rn.mono e2)) (R'.mono e2) hv) q
end DL

/-! DL24: d.get(k, x) of such dicts. -/
namespace DL
open PySem PySem.Spec PyProof.Rows L2
def tGetN (K : PySem.W.Frag) (w : World) (to : TE) (t : TA) : TE := fun σ H Q => to σ H fun x H1 => (∃ d xs, x = .ref d ∧ IsDn K w H1 d xs) ∧ t σ H1 fun ys H2 => rGetN K w x ys H2 Q
section
variable {X : Cx} {o e : Expr} {es : List Expr} {apos cpos : Pos}
theorem pe_getN {to : TE} {t : TA} (hu : X.A.units + 65 < cLine) (ho : PE X o to) (ha : PA X (e :: es) t)
    (hbase : attributeBase o "get" X.env (eval o X.env) = eval o X.env := by rfl)
    (hfew : ((backTo cpos (starEach (e :: es) X.env)).all (fun x => !x.1) && (backToKw cpos (keywordEach [] X.env)).all (fun x => x.1.isSome)
      && decide ((e :: es).length + ([] : List Keyword).length + (if ([] : List Keyword).isEmpty then 0 else 1) < 30)) = true := by rfl)
    (hline : (apos.endLine == cpos.line) = true := by rfl) (hs : starEach (e :: es) X.env = (false, eval e X.env) :: starEach es X.env := by rfl) (hplain : (backTo cpos (starEach es X.env)).any (·.1) = false := by rfl) :
    PE X (.Call (.Attribute o "get" apos) (e :: es) [] cpos) (tGetN X.K X.w to t) := by
  refine ⟨fun pins s σ H Q I h => ?_⟩
  refine wpAny_Call_method_late hbase hfew hline rfl (thn (ho.run pins s σ H _ I h) fun v s1 ⟨x, H1, I1, r1, ty, q1⟩ => ?_)
  obtain ⟨d, xs, rfl, hd⟩ := ty
  cases (show v = Value.ref d from r1)
  obtain ⟨h1, h2, ys, hp, hm⟩ := hd.at I1
  have hty := hm.typeIs
  obtain ⟨ob, _, _, hob, hex, _⟩ := hm
  refine ⟨"dict", "dict.get", PySem.F.plainAttrs_dict, PySem.F.slot_dict_get, PySem.F.type_dict_get, hty, fun a e => ?_, ?_⟩
  · cases e
    exact ⟨ob, hob, hex.2.1⟩
  have hA := ha.run cpos pins s1 σ H1 _ I1 q1
  rw [hs] at hA ⊢
  refine Calls.callWith_builtin (by show (false || (backTo cpos (starEach es X.env)).any (·.1)) = false; rw [hplain] <;> rfl) (Calls.evalArgs_plain ?_)
  exact thn hA fun us s2 ⟨vs, H2, I2, r2, q2⟩ => mt_getN hu pins s2 σ H2 (.ref d) vs (.ref d) us Q I2 rfl r2 q2
theorem de_getN {E : XK} {j : Nat} {hs : NK → Int} {to_ : TD} {tr : TAd} (hh : ∀ k, hs k = NestedKey.hash X.w k) (c : Ct X E j) (ho : DE X E o to_) (ha : DA X E (e :: es) tr)
    (hbase : attributeBase o "get" X.env (eval o X.env) = eval o X.env := by rfl)
    (hfew : ((backTo cpos (starEach (e :: es) X.env)).all (fun x => !x.1) && (backToKw cpos (keywordEach [] X.env)).all (fun x => x.1.isSome)
      && decide ((e :: es).length + ([] : List Keyword).length + (if ([] : List Keyword).isEmpty then 0 else 1) < 30)) = true := by rfl)
    (hline : (apos.endLine == cpos.line) = true := by rfl) (hst : starEach (e :: es) X.env = (false, eval e X.env) :: starEach es X.env := by rfl) (hplain : (backTo cpos (starEach es X.env)).any (·.1) = false := by rfl) :
    DE X E (.Call (.Attribute o "get" apos) (e :: es) [] cpos) (tdBM (ty_get hs) (dGetN hs) to_ tr) := by
  obtain ⟨t1, p1, d1⟩ := ho.ex
  obtain ⟨t2, p2, d2⟩ := ha.ex
  refine ⟨_, pe_getN c.u65 p1 p2 hbase hfew hline hst hplain, fun {Z I W H σ ρ Qd Ed Q} S R h sv sx => ?_⟩
  refine d1 S R h (fun x W1 v I1 H1 e1 S1 r1 h1 => ?_) sx
  obtain ⟨⟨kvs, hN⟩, h2⟩ := h1
  obtain ⟨d, xs, rfl, hd, rn⟩ := dn_of hh S1 r1 hN
  refine ⟨⟨d, xs, rfl, hd⟩, ?_⟩
  refine d2 S1 (R.mono e1) h2 (fun ys W2 vs I2 H2 e2 S2 r2 h3 => ?_) (sx.mono e1)
  obtain ⟨y, z, k, kvs2, rfl, hN2, hk, q⟩ := h3
  cases r2 with
  | @cons _ u1 _ us1 q1 t1 =>
    cases t1 with
    | @cons _ u2 _ us2 q2 t2 =>
      cases t2
      obtain ⟨d', xs', ed, hd', rn'⟩ := dn_of hh S2 (r1.mono e2) hN2
      cases ed
      obtain ⟨bb, rfl, hb⟩ := hk.rep q1
      refine ⟨d, bb, k, xs', u2, rfl, rfl, hd', hk.2.1, hb.mono S2.imm, ?_⟩
      have hgo : ∀ (o : Option D) (ov : Option V), (∀ a, o = some a → ∃ v, ov = some v ∧ Rep X.K I2 a v) → (o = none → ov = none) → Rep X.K I2 (o.getD z) (ov.getD u2) := fun o ov h1 h2 => by
        cases o with
        | none => rw [h2 rfl]; exact q2
        | some a => obtain ⟨v, rfl, r⟩ := h1 a rfl; exact r
      refine sv _ W2 _ I2 H2 (e1.trans e2) S2 (hgo (getN kvs2 k) (lookN xs' k) (fun a ha => rn'.get ha) fun hn => ?_) q
      have := rn'.isSome (k := k)
      rw [hn] at this
      cases el : lookN xs' k with
      | none => rfl
      | some v => rw [el] at this; cases this
end
end DL

/-! DL25: str of a number or None. -/
namespace DL
open PySem PySem.Spec PyProof.Rows L2
variable {X : Cx}
theorem call_str_on : CallR X (.type "str") (fun xs H Q => (∃ i, xs = [.int i] ∧ i.natAbs.log2 < 1920 ∧ Q (.str (toString i)) H) ∨ (xs = [.non] ∧ Q (.str "None") H)) := by
  intro pins s σ H xs us Q I r h
  rcases h with ⟨i, rfl, hz, q⟩ | ⟨rfl, q⟩
  · obtain ⟨u, rfl, t, rfl⟩ := vals1 r
    exact PySem.P.str_of_int hz ⟨.str _, H, I.tok _, ⟨_, rfl⟩, q⟩
  · obtain ⟨u, rfl, t⟩ := vals1 r
    cases t
    exact PySem.P.str_of_none ⟨.str _, H, I.tok _, ⟨_, rfl⟩, q⟩
def dStrN : RCd := fun xs W Q => match xs with
  | [.int i] => i.natAbs.log2 < 1920 ∧ Q (.str (toString i)) W
  | [.non] => Q (.str "None") W
  | _ => False
@[simp ↓] theorem dStrN_u : ∀ xs W Q, dStrN xs W Q = (match xs with
  | [.int i] => i.natAbs.log2 < 1920 ∧ Q (.str (toString i)) W
  | [.non] => Q (.str "None") W
  | _ => False) := fun _ _ _ => propext Iff.rfl
theorem cd_strN : CallD X (.type "str") dStrN := by
  refine ⟨_, call_str_on, fun {Z I W H xs vs Qd Q} S r h sv => ?_⟩
  unfold dStrN at h
  split at h
  · obtain ⟨v, rfl, rx⟩ := rep1 r
    cases rx
    exact .inl ⟨_, rfl, h.1, sv _ W _ I H (Same.refl I) S (.str _) h.2⟩
  · obtain ⟨v, rfl, rx⟩ := rep1 r
    cases rx
    exact .inr ⟨rfl, sv _ W _ I H (Same.refl I) S (.str _) h⟩
  · exact h.elim
end DL

/-! DL26: l.index(k) of whole numbers. -/
namespace DL
open PySem PySem.Spec PyProof.Rows L2
section
variable {X : Cx} {E : XK} {j : Nat} {o e : Expr} {to_ te : TD} {pos : Pos}
def dIndex : RMd := fun x ds W Q => match ds with
  | [.int k] => ∃ ns : List Int, itemsD W x = some (ns.map D.int) ∧ k ∈ ns ∧ Q (.int (ns.idxOf k : Nat)) W
  | _ => False
@[simp ↓] theorem dIndex_u : ∀ x ds W Q, dIndex x ds W Q = (match ds with
  | [.int k] => ∃ ns : List Int, itemsD W x = some (ns.map D.int) ∧ k ∈ ns ∧ Q (.int (ns.idxOf k : Nat)) W
  | _ => False) := fun _ _ _ _ => propext Iff.rfl
theorem idx_first {k : Int} : ∀ {ns : List Int} {m : Nat} {z : Int}, m < ns.idxOf k → ns[m]? = some z → z ≠ k
  | [], m, z, h, e => by simp at e
  | a :: ns, 0, z, h, e => by
    simp at e; subst e
    intro q; subst q
    simp [List.idxOf_cons] at h
  | a :: ns, m + 1, z, h, e => by
    rw [List.idxOf_cons] at h
    by_cases q : a = k
    · subst q; simp at h
    · have : (a == k) = false := by simpa using q
      rw [this] at h
      simp only [cond_false] at h
      exact idx_first (ns := ns) (m := m) (by omega) (by simpa using e)
theorem mtd_index : MtD X "list" "list.index" ty_index (tyL dIndex) := by
  refine ⟨_, mt_index, ty_list_ok, fun {Z I W H x v xs vs Qd Q} S rx r h sv => ?_⟩
  obtain ⟨ht, h⟩ := h
  unfold dIndex at h
  split at h
  · rename_i k
    obtain ⟨ns, hi, hk, q⟩ := h
    obtain ⟨u, rfl, ru⟩ := rep1 r
    cases ru
    obtain ⟨p, ys, rfl, hs, rl⟩ := items_list S rx ht hi
    have := rl.ints_of
    subst this
    have hj : ns.idxOf k < ns.length := List.idxOf_lt_length_iff.mpr hk
    have ej : ns[ns.idxOf k]? = some k := by
      rw [List.getElem?_eq_getElem hj, List.getElem_idxOf hj]
    refine ⟨p, ns.map V.int, .int k, ns.idxOf k, .int k, rfl, rfl, hs, rfl, ?_, ?_, ?_, fun m z hm hz => ?_, sv _ W _ I H (Same.refl I) S (.int _) q⟩
    · simp [flatV]
    · rw [List.getElem?_map, ej]; rfl
    · simp [eqV]
    · rw [List.getElem?_map] at hz
      cases e : ns[m]? with
      | none => rw [e] at hz; cases hz
      | some y =>
        rw [e] at hz; cases hz
        have := idx_first hm e
        simpa [eqV] using this
  · exact h.elim
variable {apos cpos : Pos} {es : List Expr} {tr : TAd}
theorem m_index (ho : DE X E o to_) (ha : DA X E (e :: es) tr)
    (hbase : attributeBase o "index" X.env (eval o X.env) = eval o X.env := by rfl)
    (hfew : ((backTo cpos (starEach (e :: es) X.env)).all (fun x => !x.1) && (backToKw cpos (keywordEach [] X.env)).all (fun x => x.1.isSome)
      && decide ((e :: es).length + ([] : List Keyword).length + (if ([] : List Keyword).isEmpty then 0 else 1) < 30)) = true := by rfl)
    (hline : (apos.endLine == cpos.line) = true := by rfl) (hs : starEach (e :: es) X.env = (false, eval e X.env) :: starEach es X.env := by rfl) (hplain : (backTo cpos (starEach es X.env)).any (·.1) = false := by rfl) :
    DE X E (.Call (.Attribute o "index" apos) (e :: es) [] cpos) (tdBM ty_index (tyL dIndex) to_ tr) := de_bm PySem.F.plainAttrs_list PySem.F.slot_list_index PySem.F.type_list_index mtd_index ho ha hbase hfew hline hs hplain
end
end DL

/-! DL27: l[::-1]. -/
namespace DL
open PySem PySem.Spec PyProof.Rows L2
section
variable {X : Cx} {E : XK} {e : Expr} {te : TD}
def tdRevL (te : TD) : TD := fun ρ W Q E => te ρ W (fun x W1 => match x with
  | .lst xs => Q (.lst xs.reverse) W1
  | _ => False) E
@[simp ↓] theorem tdRevL_u (te : TD) : ∀ ρ W Q E, tdRevL te ρ W Q E = (te ρ W (fun x W1 => match x with
  | .lst xs => Q (.lst xs.reverse) W1
  | _ => False) E) := fun _ _ _ _ => propext Iff.rfl
theorem de_revL {k : Nat} {p1 p2 p3 pos : Pos} (he : DE X E e te) : DE X E (.Subscript e (.Slice none none (some (.UnaryOp .USub (.Constant (.int 1) k p1) p2)) p3) pos) (tdRevL te) := by
  obtain ⟨t1, q1, d1⟩ := he.ex
  refine ⟨_, pe_revL q1, fun {Z I W H σ ρ Qd Ed Q} S R h sv sx => ?_⟩
  refine d1 S R h (fun x W1 v I1 H1 e1 S1 r1 h1 => ?_) sx
  cases x with
  | lst xs =>
    cases r1 with
    | lst hv rv => exact ⟨_, _, rfl, .inl (.inl (S1.imm _ _ hv)), fun p hp => sim_lst S1 rv.reverse (sv.mono e1) hp h1⟩
  | _ => exact h1.elim
end
end DL
namespace DL
open PySem PySem.Spec PyProof.Rows L2
/-- a promise that is never asked -/
theorem fnok_none {P : Program} {w : World} {K : PySem.W.Frag} {mg : Str → Option Value} {base : Heap} {k : Nat} {f : Addr} {fd : FuncData} {ps : List Str} {spd : SpD} (h : ∀ ds W Q E, spd ds W Q E → False) : FnOk P w K mg base (L2.CX P w) k f fd ps (liftS K spd) :=
  ⟨fun vs H Q E ⟨Z, I, W, ds, Qd, Ed, S, r, q, r2⟩ => (h _ _ _ _ q).elim, fun A outer s H args us vs Q E hr he hb hv ⟨Z, I, W, ds, Qd, Ed, S, r, q, r2⟩ => (h _ _ _ _ q).elim⟩
end DL

/-! DL28: comprehensions whose elements may raise. -/
namespace DL
open PySem PySem.Spec PyProof.Rows L2
/-! ### the comprehension, what is behind it told with its own names -/
section
variable {M : Model} {A : Around} {E : Value → Shared → Prop} {s : Shared} {env : Env}
def lcPost (M : Model) (A : Around) (E : Value → Shared → Prop) (use : Option (Value → Sem Unit)) (Q : Value → Shared → Prop) (acc : Value) (cenv : Env) : Result → Shared → Prop
  | .ok f, s' => compPost M A E use Q acc cenv.locals (.ok f) s'
  | .error x, s' => ∃ m, s'.heap.Ns cenv.locals m ∧ ∀ h', Heap.SameBut cenv.locals s'.heap h' → wpAny M A (passOn "comprehension.variables-let-go" x cenv : Sem Value) (fun _ _ => False) E { s' with heap := h' }
theorem lc_free {e : Expr} {scope : Scope} {pos : Pos} {mk first : Sem Value} {g : Comprehension} {gs : List Comprehension} {cl : List (Str × Addr)} {use : Option (Value → Sem Unit)} {Q : Value → Shared → Prop}
    (h1 : clausesOf e = g :: gs) (h2 : ∀ x, foldedSetIterable g.iter env x = pure x) (h3 : closureFor scope env = pure cl) (h4 : scope.kind = .function) (h5 : ∀ x ∈ scope.names, x.2 = .local → scope.names.lookup x.1 = some .local)
    (h : wpAny M A first (fun x sa => wpAny M A (pyIter x) (fun it sb => wpAny M A mk (fun acc sc => wpAny M A (newFunctionEnv scope env.globals cl [] env.qual none .none (some env)) (fun ce sd =>
        codeAny M A (.compStart e 0 it acc { ce with scope := relabel scope env }) (lcPost M A E use Q acc { ce with scope := relabel scope env }) sd) E sc) E sb) E sa) E s) :
    wpAny M A (comprehension e scope env pos mk false first use) Q E s := by
  unfold comprehension
  rw [h3, h1]
  have keep : ∀ (a : Value) (b : Shared), E a b → E a b := fun _ _ z => z
  refine wpAny_bind (wpAny_mono h (fun x sa ha => ?_) keep)
  refine wpAny_bind (wpAny_standAt (wpAny_bind (wpAny_of_eq (h2 x) (wpAny_bind (wpAny_holding (wpAny_mono ha (fun it sb hb => ?_) keep))))))
  refine wpAny_standIf (wpAny_bind (wpAny_mono hb (fun acc sc hc => ?_) keep))
  refine wpAny_bind (wpAny_pure (wpAny_bind (wpAny_mono hc (fun ce sd hd => ?_) keep)))
  dsimp only
  have own : ∀ x ∈ (scope.names.filter fun x => (x.2 == .local || x.2 == .cell) && x.1 != (".0" : Str)).reverse, x.2 = .local → Env.kindOf { ce with scope := relabel scope env } x.1 = some .local := fun x hx hl =>
    lookup_relabel_local (h5 x (List.mem_filter.mp (List.mem_reverse.mp hx)).1 hl)
  refine wpAny_holding (wpAny_bind (wpAny_attempt (wpAny_holding (wpAny_run (codeAny_mono hd fun r se hr => ?_)))))
  cases r with
  | error x =>
    obtain ⟨m, hn, hr⟩ := hr
    refine wpAny_bind (wpAny_holding (wpAny_comp_letGo (cenv := { ce with scope := relabel scope env }) h4 _ se m own hn fun h' m' _ hs => ?_))
    exact wpAny_mono (hr h' hs) (fun _ _ f => f.elim) keep
  | ok f =>
    cases use with
    | none =>
      obtain ⟨m, hn, hr⟩ := hr
      refine wpAny_bind (wpAny_holding (wpAny_comp_letGo (cenv := { ce with scope := relabel scope env }) h4 _ se m own hn fun h' m' _ hs => ?_))
      exact wpAny_pure (hr h' hs)
    | some u =>
      refine wpAny_bind (wpAny_rule (wpAny_bind (wpAny_holding (wpAny_mono hr (fun _ sf hf => ?_) keep))))
      obtain ⟨m, hn, hf⟩ := hf
      have own2 : ∀ x ∈ (scope.names.filter fun x => (x.2 == .local || x.2 == .cell) && x.1 != (".0" : Str)).reverse.drop 1 ++ (scope.names.filter fun x => (x.2 == .local || x.2 == .cell) && x.1 != (".0" : Str)).reverse.take 1, x.2 = .local → Env.kindOf { ce with scope := relabel scope env } x.1 = some .local := fun x hx hl =>
        (List.mem_append.mp hx).elim (fun z => own x (List.mem_of_mem_drop z) hl) (fun z => own x (List.mem_of_mem_take z) hl)
      refine wpAny_bind (wpAny_comp_letGo (cenv := { ce with scope := relabel scope env }) h4 _ sf m own2 hn fun h' m' _ hs => ?_)
      exact wpAny_pure (hf h' hs)
end
/-! ### an exception in the air of the block -/
abbrev blkX (X : Cx) (s : Shared) (H : Hp) (scope : Scope) (cenv : Env) (fp : List Addr) (xe : Value → Shared → Prop) : Cx := { X.blk s H scope cenv fp with xe := xe }
theorem inv_xe {X : Cx} {xe : Value → Shared → Prop} {pins : List (Addr × Obj)} {σ : L2.St} {H : Hp} {s : Shared} (I : Inv X pins σ H s) : Inv { X with xe := xe } pins σ H s := by
  obtain ⟨k1, k2, k3, k4, k5, k6, k7, k8, k9, k10, k11, k12, k13, k14, k15, k16, k17, k18⟩ := I.ok
  exact ⟨⟨k1, k2, k3, k4, k5, k6, k7, k8, k9, k10, k11, k12, k13, k14, k15, k16, k17, k18⟩, I.os, I.bare, I.base, I.loc, I.cell, I.free, I.freeC, I.pin, I.hok, I.len⟩
theorem call_air {X : Cx} {pins : List (Addr × Obj)} {σ : L2.St} {H : Hp} {s s' : Shared} {E : XK} {u : Value} (I : Inv X pins σ H s) (c : L2.CX X.prog X.w X.stack H s E u s') :
    ∃ (a : Addr) (B : Heap) (sI : Shared) (H' : Hp) (cls : Value) (d : Option Addr), u = .ref a ∧ Inv X pins σ H' sI ∧ (∀ b o, sI.heap.get? b = some o → b ∉ frs X.stack → B.get? b = some o) ∧ sI.heap.UpToSlots s'.heap ∧
      HandSPX.FlyingZ B X.stack a (Zc cls d) s'.heap ∧ H' a = none ∧ s'.os = sI.os ∧ AllBare s'.gens ∧ E cls d H' := by
  obtain ⟨a, B, H', cls, d, eu, fly, okB, kept, na, eos, bare, hE⟩ := c
  have stay : ∀ b o, B.get? b = some o → s'.heap.get? b = some o := fly.1
  -- all of the ground and the frames
  obtain ⟨G, gin, gout⟩ := restrict s'.heap fun b => (B.get? b).isSome || decide (b ∈ frs X.stack)
  have ofB : ∀ b o, B.get? b = some o → G.get? b = some o := fun b o z => (gin b (by rw [z]; rfl)).trans (stay b o z)
  have ofF : ∀ b ∈ frs X.stack, G.get? b = s'.heap.get? b := fun b z => gin b (by rw [decide_eq_true z, Bool.or_true])
  have isG : ∀ b o, G.get? b = some o → s'.heap.get? b = some o ∧ (b ∉ frs X.stack → B.get? b = some o) := fun b o z => by
    by_cases q : ((B.get? b).isSome || decide (b ∈ frs X.stack)) = true
    · have z2 : s'.heap.get? b = some o := by rw [← gin b q]; exact z
      refine ⟨z2, fun nf => ?_⟩
      rw [decide_eq_false nf, Bool.or_false] at q
      obtain ⟨o2, z3⟩ := Option.isSome_iff_exists.mp q
      have := stay b o2 z3
      rw [z2] at this; cases this; exact z3
    · rw [gout b (by simpa using q)] at z; cases z
  have un : Un (frs X.stack) [] H H' s.heap G := by
    refine ⟨fun b o z n hb _ => ofB b o (kept.keep b o z n hb), fun b o z n hb _ => ?_, fun b o z n _ => kept.free b o z n, fun b o z _ => ?_, kept.tups, kept.frzs, kept.tbls⟩
    · obtain ⟨sl, q⟩ := kept.slot b o z hb
      exact ⟨sl, (ofF b hb).trans q⟩
    · by_cases hb : b ∈ frs X.stack
      · obtain ⟨sl, q⟩ := kept.slot b o z hb
        exact ⟨_, (ofF b hb).trans q⟩
      · obtain ⟨o2, q⟩ := kept.there b o z hb
        exact ⟨o2, ofB b o2 q⟩
  have J := I.call (g' := s'.gens) (t' := s'.toks) (d' := s'.drawn) (ch := []) un (okB.kept ofB) bare (fun _ z => nomatch z)
  exact ⟨a, B, _, H', cls, d, eu, J, fun b o z nf => (isG b o z).2 nf, Heap.UpToSlots.of_keeps fun b o z => (isG b o z).1, fly, na, eos, bare, hE⟩
/-- the frame that is noted: told by its address alone -/
theorem note_same {e : Value} {ce env : Env} (h : ce.frame = env.frame) : noteFrame e ce = noteFrame e env := by
  unfold noteFrame PySem.frameOf
  rw [h]
theorem frames_but {C : Addr} {B B' h h' : Heap} (same : ∀ b, b ≠ C → h'.get? b = h.get? b) (sub : ∀ b, B.get? b = none → B'.get? b = none) : ∀ {l : List Env}, (C ∉ frs l) → h.FunFrames B l → h'.FunFrames B' l
  | [], _, _ => trivial
  | env :: l, hC, hl => by
    obtain ⟨hk, ⟨L, o, hf, hn, ho, hd⟩, hr⟩ := hl
    have hL : L ∈ frs (env :: l) := List.mem_filterMap.mpr ⟨env, List.mem_cons_self, hf⟩
    refine ⟨hk, ⟨L, o, hf, sub L hn, (same L fun z => hC (z ▸ hL)).trans ho, hd⟩, frames_but same sub (fun z => hC ?_) hr⟩
    obtain ⟨e, he, q⟩ := List.mem_filterMap.mp z
    exact List.mem_filterMap.mpr ⟨e, List.mem_cons_of_mem _ he, q⟩
theorem held_but {C a L : Addr} {B B' : Heap} {l : List Env} {Z : Obj → Prop} {h h' : Heap} (x : HandSPX.HeldZ B l a Z L h) (same : ∀ b, b ≠ C → h'.get? b = h.get? b) (hC : ∃ o, h.get? C = some o ∧ ∀ vs, o.data ≠ .fields vs) (nC : C ∉ frs l)
    (b1 : ∀ b o, B'.get? b = some o → b ≠ C ∧ B.get? b = some o) : HandSPX.HeldZ B' l a Z L h' := by
  obtain ⟨f1, f2, f3, oe, vs, T, oT, ts, he, hz, hd, h1, hnT, hTe, hT, hdT, h3⟩ := x
  obtain ⟨oC, eC, dC⟩ := hC
  have sub : ∀ b, B.get? b = none → B'.get? b = none := fun b z => by
    cases q : B'.get? b with
    | none => rfl
    | some o => rw [(b1 b o q).2] at z; cases z
  have na : a ≠ C := fun z => by subst z; rw [eC] at he; cases he; exact dC _ hd
  have nT : T ≠ C := fun z => by subst z; rw [eC] at hT; cases hT; exact dC _ hdT
  exact ⟨fun b o z => (same b (b1 b o z).1).trans (f1 b o (b1 b o z).2), sub a f2, frames_but same sub nC f3, oe, vs, T, oT, ts, (same a na).trans he, hz, hd, h1, sub T hnT, hTe, (same T nT).trans hT, hdT, h3⟩
section
variable {X : Cx} {E : XK}
/-- what a def's call let out of the block is taken by the def -/
theorem blk_pass {scope : Scope} {ce : Env} {fp : List Addr} {pins : List (Addr × Obj)} {σ : L2.St} {H3 : Hp} {s3 : Shared} {xe : Value → Shared → Prop} {pn : List (Addr × Obj)} {σ1 : L2.St} {H1 : Hp} {s1 s2 : Shared} {e : Value} {acc : Value} {use : Option (Value → Sem Unit)} {Q : Value → Shared → Prop}
    (hs : X.stack = X.env :: X.outer) (hf : X.env.frame = some X.env.locals) (tk : Takes X (fun cls d _ H => E cls d H)) (I3 : Inv X pins σ H3 s3) (hfp : ∀ b ∈ fp, FpOk X pins H3 b) (hcf : ce.frame = X.env.frame) (hcL : s3.heap.objs.size ≤ ce.locals)
    (I1 : Inv (blkX X s3 H3 scope ce fp xe) pn σ1 H1 s1) (c : L2.CX X.prog X.w X.stack H1 s1 E e s2) :
    notedBy (model X.prog X.w) X.A ce (fun x s' => lcPost (model X.prog X.w) X.A X.xe use Q acc ce (.error x) s') e s2 := by
  obtain ⟨a, B, sI, HI, cls, d, rfl, II, nb, up, fly, na, eos, bare, hE⟩ := call_air I1 c
  have hfr : X.A.frames = some (X.env :: X.outer) := by rw [I3.ok.frames, hs]
  unfold notedBy
  rw [note_same hcf]
  have nCs : ce.locals ∉ frs X.stack := fun z => by
    rcases List.mem_cons.mp (I3.stkSub _ z) with q | q
    · exact Nat.lt_irrefl _ (Nat.lt_of_lt_of_le I3.lt (by rw [← q]; exact hcL))
    · exact I3.nofs hcL q
  have nst : X.stack = X.env :: X.outer := hs
  rw [nst] at fly
  refine HandSPX.looks_onZ Zc.steady hfr hf fly fun h1 held up1 => ?_
  obtain ⟨m, hm, _⟩ := II.loc
  have hm : sI.heap.Ns ce.locals m := hm
  have hm1 : h1.Ns ce.locals m := up1.ns (up.ns hm)
  refine ⟨m, hm1, fun h2 but => ?_⟩
  have hC1 : ∃ o, h1.get? ce.locals = some o ∧ ∀ vs, o.data ≠ .fields vs := by
    obtain ⟨o, es, ep, ho, hd, _⟩ := hm1
    exact ⟨o, ho, fun vs z => by rw [hd] at z; cases z⟩
  -- without the block's own dict
  obtain ⟨B', b1, b2⟩ := restrict B fun b => !decide (b = ce.locals)
  obtain ⟨G, g1, g2⟩ := restrict sI.heap fun b => !decide (b = ce.locals)
  have inB : ∀ b o, B'.get? b = some o → b ≠ ce.locals ∧ B.get? b = some o := fun b o z => by
    by_cases q : b = ce.locals
    · rw [b2 b (by simp [q])] at z; cases z
    · exact ⟨q, by rw [← b1 b (by simp [q])]; exact z⟩
  have inG : ∀ b o, G.get? b = some o → b ≠ ce.locals ∧ sI.heap.get? b = some o := fun b o z => by
    by_cases q : b = ce.locals
    · rw [g2 b (by simp [q])] at z; cases z
    · exact ⟨q, by rw [← g1 b (by simp [q])]; exact z⟩
  rw [nst] at nCs
  have held2 := held_but held but.2 hC1 nCs inB
  obtain ⟨_, _, _, oe, vs, T, oT, ts, he, _, hd, hv1, _⟩ := id held2
  unfold PySem.passOn
  refine wpAny_bind (wpAny_field he hd hv1 ?_)
  rw [if_neg (by simp)]
  refine wpAny_bind ?_
  rw [hcf, hf]
  refine HandSPX.setFlight_onZ held2 fun h3 held3 up3 => wpAny_throw ?_
  -- back in the def
  have base : Un (frs X.stack) fp H3 HI s3.heap sI.heap := II.base
  have J := I3.call' (ch := fp) II.os base II.hok II.bare fun b hb => ⟨(hfp b hb).2.2.2.1, (hfp b hb).2.1, (hfp b hb).2.2.2.2.1, (hfp b hb).2.2.2.2.2⟩
  have nC : HI ce.locals = none := II.free
  obtain ⟨f0, f1, f2, f3, f4, f5⟩ := I3.fpOk (H' := HI) hcL nC
  have J2 := J.turned (t' := sI.toks) (h' := G) (it := ce.locals) (fun b o hb z => by rw [g1 b (by simp [hb])]; exact z) f0 f1 f3 f4 f5
  refine tk _ _ ⟨a, B', _, pins, σ, HI, cls, d, rfl, J2, fun b o z nf => ?_, fun b o z hnf => ?_, .inr (.inr (by rw [nst]; exact held3)), na, eos, bare, hE⟩
  · obtain ⟨q1, q2⟩ := inG b o z
    rw [b1 b (by simp [q1])]
    exact nb b o q2 nf
  · obtain ⟨q1, q2⟩ := inG b o z
    obtain ⟨sl1, z1⟩ := up b o q2 hnf
    obtain ⟨sl2, z2⟩ := up1 b _ z1 hnf
    have z3 : h2.get? b = some { o with slots := sl2 } := (but.2 b q1).trans z2
    obtain ⟨sl3, z4⟩ := up3 b _ z3 hnf
    exact ⟨sl3, z4⟩
end
/-! ### the block runs -/
section
variable {X : Cx} {E : XK} {j : Nat} {elt tg iter : Expr} {ifs : List Expr} {scope : Scope} {own : List (Str × Nat)} {pos : Pos} {wi : TI} {g : TG} {tt : TT} {te : TE}
/-- what the block's parts are asked under -/
def BlkE (X : Cx) (E : XK) (j : Nat) (scope : Scope) (P : Cx → Prop) : Prop := ∀ (s : Shared) (H : Hp) (C : Addr) (cl : List (Str × Addr)) (fp : List Addr) (xe : Value → Shared → Prop), Ct (blkX X s H scope (compEnvC scope cl C X.env) fp xe) E j → P (blkX X s H scope (compEnvC scope cl C X.env) fp xe)
/-- .. where the def itself stands at the block's start -/
def BlkI (X : Cx) (E : XK) (j : Nat) (scope : Scope) (σ : L2.St) (P : Cx → Prop) : Prop := ∀ (pins : List (Addr × Obj)) (s : Shared) (H : Hp) (C : Addr) (cl : List (Str × Addr)) (fp : List Addr) (xe : Value → Shared → Prop), Inv X pins σ H s → (∀ b ∈ fp, FpOk X pins H b) → Ct (blkX X s H scope (compEnvC scope cl C X.env) fp xe) E j → P (blkX X s H scope (compEnvC scope cl C X.env) fp xe)
theorem BlkE.toI {σ : L2.St} {P : Cx → Prop} (h : BlkE X E j scope P) : BlkI X E j scope σ P := fun _ s H C cl fp xe _ _ c => h s H C cl fp xe c
theorem lc_runX {pins : List (Addr × Obj)} {s : Shared} {σ : L2.St} {H : Hp} {Q : VK} {posB : Pos} {use : Option (Value → Sem Unit)} {Qf : Value → Shared → Prop}
    (c : Ct X E j) (tk : Takes X (fun cls d _ H => E cls d H)) (hst : X.stack = X.env :: X.outer) (hfr : X.env.frame = some X.env.locals) (I : Inv X pins σ H s) (hi : PI X tg iter wi) (ok : BlkOk X.N X.env.scope scope own)
    (hg : BlkI X E j scope σ fun Y => PG Y tg g) (ht : BlkI X E j scope σ fun Y => PTs Y ifs tt) (he : BlkI X E j scope σ fun Y => PE Y elt te) (hfold : ∀ x, foldedSetIterable iter X.env x = pure x)
    (h : tLc wi g tt te (own.map (·.2)) σ H Q)
    (hok : ∀ D C s' m H', Inv X pins σ H' s' → Q (.ref D) H' → s'.heap.Ns C m → FpOk X pins H' C → compPost (model X.prog X.w) X.A X.xe use Qf (.ref D) C (.ok .next) s') :
    wpAny (model X.prog X.w) X.A (comprehension (.ListComp elt [⟨tg, iter, ifs, 0⟩] scope pos) scope X.env posB (newList []) false (eval iter X.env) use) Qf X.xe s := by
  have cellsThere : ∀ y ∈ scope.names, y.2 = .free → ∃ c, X.env.cells.lookup y.1 = some c := fun y hy z => by
    rcases ok.free y hy z with k | k
    · exact I.ok.has _ (.inl k)
    · exact I.ok.has _ (.inr k)
  refine lc_free (use := use) rfl hfold (closure_ok cellsThere) ok.kind (fun y hy z => by rw [ok.uniq y hy, z]) (thn (hi.run pins s σ H _ I h) fun xv sa ha => thn ha fun itv sb hb => ?_)
  obtain ⟨it, fp, tn, J, H2, rfl, I2, T, st2, f2, q⟩ := hb
  refine wpAny_newObj_type (newEnv_comp ?_) (Nat.zero_le _)
  generalize eD : sb.heap.objs.size = D
  have freeD : H2 D = none := I2.hok.fresh (Nat.le_of_eq eD)
  obtain ⟨V, ⟨m0, w0⟩, turn⟩ := q D freeD
  generalize es3 : ({ sb with heap := sb.heap.push { cls := .type "list", data := .seq ([] : List Value).toArray } } : Shared) = s3
  have hp3 : s3.heap = sb.heap.push { cls := .type "list", data := .seq ([] : List Value).toArray } := by rw [← es3]
  have I3 : Inv X pins σ (upd H2 D (.lst [])) s3 := by
    rw [← es3]
    refine I2.laid (t' := sb.toks) (fun b o z => Heap.get?_push_of_some _ z) (Nat.le_of_eq eD) ⟨Nat.zero_le _, [], 0, .nil, ?_⟩
    rw [← eD]
    exact Heap.get?_push_size _ rfl
  have small : ∀ b ∈ fp, b < sb.heap.objs.size := fun b hb => by
    obtain ⟨o, z, _⟩ := T.obj _ _ st2 b hb
    exact Heap.lt_size z
  have f3 : ∀ b ∈ fp, FpOk X pins (upd H2 D (.lst [])) b ∧ b < s3.heap.objs.size := fun b hb => by
    have lt := small b hb
    refine ⟨⟨?_, (f2 b hb).2⟩, by rw [hp3, Heap.size_push]; exact Nat.lt_succ_of_lt lt⟩
    rw [upd_ne (by rw [← eD]; exact Nat.ne_of_lt lt)]
    exact (f2 b hb).1
  have st3 : tn 0 s3.heap := T.keep _ _ _ st2 fun b _ o z => by rw [hp3]; exact Heap.get?_push_of_some _ z
  have B0 := block_start I3 ok c.nd f3
  show codeAny _ _ (.compStart (.ListComp elt [⟨tg, iter, ifs, 0⟩] scope pos) 0 (.ref it) (.ref D) (compEnvC scope (cellsFrom (s3.heap.objs.size + 1) scope.names (cloFrom X.env.cells scope.names [])) s3.heap.objs.size X.env)) (lcPost (model X.prog X.w) X.A X.xe use Qf (.ref D) (compEnvC scope (cellsFrom (s3.heap.objs.size + 1) scope.names (cloFrom X.env.cells scope.names [])) s3.heap.objs.size X.env)) { s3 with heap := pushCells (s3.heap.push { cls := .type "dict", data := .dict #[] }) scope.names }
  have bare3 : ∀ b ∈ fp, (upd H2 D (.lst [])) b = none := fun b hb => (f3 b hb).1.1
  have partG := fun xe => hg pins s3 (upd H2 D (.lst [])) s3.heap.objs.size (cellsFrom (s3.heap.objs.size + 1) scope.names (cloFrom X.env.cells scope.names [])) fp xe I3 fun b hb => (f3 b hb).1
  have partT := fun xe => ht pins s3 (upd H2 D (.lst [])) s3.heap.objs.size (cellsFrom (s3.heap.objs.size + 1) scope.names (cloFrom X.env.cells scope.names [])) fp xe I3 fun b hb => (f3 b hb).1
  have partE := fun xe => he pins s3 (upd H2 D (.lst [])) s3.heap.objs.size (cellsFrom (s3.heap.objs.size + 1) scope.names (cloFrom X.env.cells scope.names [])) fp xe I3 fun b hb => (f3 b hb).1
  generalize ece : compEnvC scope (cellsFrom (s3.heap.objs.size + 1) scope.names (cloFrom X.env.cells scope.names [])) s3.heap.objs.size X.env = ce at B0 partG partT partE ⊢
  have ceL : ce.locals = s3.heap.objs.size := by subst ece; rfl
  have ceF : ce.frame = X.env.frame := by subst ece; rfl
  generalize eH3 : upd H2 D (.lst []) = H3 at I3 B0 partG partT partE w0 bare3 f3
  generalize exe : notedBy (model X.prog X.w) X.A ce (fun x s' => lcPost (model X.prog X.w) X.A X.xe use Qf (.ref D) ce (.error x) s') = xe
  have cB : Ct (blkX X s3 H3 scope ce fp xe) E j := by
    refine ⟨c.calm, ?_, fun pn σ1 H1 s1 e s2 I1 cx => ?_, c.room, c.nd⟩
    · rw [← exe]; exact PassesOwn.looking
    · show xe e s2
      rw [← exe]
      exact blk_pass hst hfr tk I3 (fun b hb => (f3 b hb).1) ceF (Nat.le_of_eq ceL.symm) I1 cx
  have pg := partG xe cB
  have pt := partT xe cB
  have pe := partE xe cB
  have B1 : Inv (blkX X s3 H3 scope ce fp xe) [] (wipe σ (own.map (·.2))) H3 { s3 with heap := pushCells (s3.heap.push { cls := .type "dict", data := .dict #[] }) scope.names } := inv_xe B0
  generalize es4 : ({ s3 with heap := pushCells (s3.heap.push { cls := .type "dict", data := .dict #[] }) scope.names } : Shared) = s4 at B1 ⊢
  have st4 : tn 0 s4.heap := T.keep _ _ _ st3 fun b _ o z => by rw [← es4]; exact pushCells_keeps _ _ _ _ (Heap.get?_push_of_some _ z)
  have calmFp : ∀ {σa : L2.St} {Ha : Hp} {sa : Shared}, Inv (blkX X s3 H3 scope ce fp xe) [] σa Ha sa → (∀ b ∈ fp, Ha b = none) → ∀ b ∈ fp, FpOk (blkX X s3 H3 scope ce fp xe) [] Ha b := fun {σa Ha sa} Ia hn b hb =>
    ⟨hn b hb, (Ia.ok.exf b hb).1, Ia.ok.exfs b hb, .inl hb, fun x c z => (Ia.ok.exf b hb).2 x c z, fun p hp => absurd (show p ∈ ([] : List (Addr × Obj)) ++ [] from hp) (by simp)⟩
  have never : ∀ {α : Type} {t : Sem α} {Qa : α → Shared → Prop} {Ea : Value → Shared → Prop} {sa : Shared}, wpAny (model X.prog X.w) X.A t Qa (fun _ _ => False) sa → wpAny (model X.prog X.w) X.A t Qa Ea sa := fun z => wpAny_mono z (fun _ _ y => y) fun _ _ y => y.elim
  have loop : codeAny (model X.prog X.w) X.A (.compLoop (.ListComp elt [⟨tg, iter, ifs, 0⟩] scope pos) 0 (.ref it) (.ref D) ce) (lcPost (model X.prog X.w) X.A X.xe use Qf (.ref D) ce) s4 := by
    refine compLoop_any (fun n sx => ∃ i Hx, Inv (blkX X s3 H3 scope ce fp xe) [] (wipe σ (own.map (·.2))) Hx sx ∧ tn i sx.heap ∧ (∀ b ∈ fp, Hx b = none) ∧ V i n Hx) ?_ m0 ⟨0, H3, B1, st4, bare3, w0⟩
    rintro n s5 ⟨i, H5, I5, st5, n5, w5⟩
    rw [exe]
    rcases turn i n H5 w5 with ⟨stop, done⟩ | ⟨go, Nx, hNx, step⟩
    · refine never (thn (T.done (blkX X s3 H3 scope ce fp xe) rfl rfl rfl c.calm i [] s5 _ H5 (fun _ _ => False) I5 (calmFp I5 n5) st5 stop) fun r s6 hr => ?_)
      obtain ⟨rfl, I6⟩ := hr
      have I7 : Inv X pins σ H5 s6 := I3.call' (ch := fp) I6.os I6.base I6.hok I6.bare fun b hb => ⟨(f3 b hb).1.2.2.2.1, (f3 b hb).1.2.1, (f3 b hb).1.2.2.2.2.1, (f3 b hb).1.2.2.2.2.2⟩
      have freeC : H5 s3.heap.objs.size = none := by
        have z : H5 ce.locals = none := I6.free
        rwa [ceL] at z
      obtain ⟨m, hm, _⟩ := I6.loc
      have hm : s6.heap.Ns ce.locals m := hm
      show compPost (model X.prog X.w) X.A X.xe use Qf (.ref D) ce.locals (.ok .next) s6
      rw [ceL] at hm ⊢
      exact hok D s3.heap.objs.size s6 m H5 I7 done hm (I3.fpOk (Nat.le_refl _) freeC)
    · refine never (thn (T.item (blkX X s3 H3 scope ce fp xe) rfl rfl rfl c.calm i [] s5 _ H5 (fun _ _ => False) I5 (calmFp I5 n5) st5 go) fun r s6 hr => ?_)
      obtain ⟨u, rfl, h6⟩ := hr
      refine never (thn h6 fun _ s7 h7 => ?_)
      obtain ⟨x, H7, I7, r7, y7, st7, n7⟩ := h7
      have P7 := I7.pinned (calmFp I7 n7) (T.obj _ _ st7)
      refine thn (pg.run _ s7 _ H7 x u _ P7 r7 (step x H7 y7)) fun _ s8 h8 => ?_
      obtain ⟨σ8, H8, I8, hw8, q8⟩ := h8
      refine thn (pt.run _ s8 σ8 H8 _ I8 q8) fun b s9 h9 => ?_
      obtain ⟨H9, I9, q9⟩ := h9
      have turned : ∀ {sx : Shared} {Hx : Hp}, Inv (blkX X s3 H3 scope ce fp xe) ([] ++ pinsAt fp s7.heap) σ8 Hx sx → Nx Hx → ∃ m, m < n ∧ ∃ i Hx, Inv (blkX X s3 H3 scope ce fp xe) [] (wipe σ (own.map (·.2))) Hx sx ∧ tn i sx.heap ∧ (∀ b ∈ fp, Hx b = none) ∧ V i m Hx := fun {sx Hx} Ix nx => by
        obtain ⟨m', lt, w'⟩ := hNx Hx nx
        have pinned : ∀ b ∈ fp, ∀ o, s7.heap.get? b = some o → sx.heap.get? b = some o ∧ Hx b = none := fun b hb o z =>
          let y := Ix.pin (b, o) (List.mem_append_right _ (List.mem_append_right _ (mem_pinsAt hb z)))
          ⟨y.1, y.2.1⟩
        have len : (wipe σ (own.map (·.2))).length = σ8.length := by rw [← hw8, wipe_length]
        refine ⟨m', lt, i + 1, Hx, (Ix.unpinned (pins := [])).weak len (fun k v z => ?_), T.keep _ _ _ st7 fun b hb o z => (pinned b hb o z).1, fun b hb => ?_, w'⟩
        · rw [← hw8] at z
          exact (wipe_some z).1
        · obtain ⟨o, z, _⟩ := T.obj _ _ st7 b hb
          exact (pinned b hb o z).2
      cases b with
      | false =>
        simp only [Bool.false_eq_true, if_false] at q9 ⊢
        exact turned I9 q9
      | true =>
        simp only [if_true] at q9 ⊢
        refine thn (pe.run _ s9 σ8 H9 _ I9 q9) fun z sA hA => ?_
        obtain ⟨yv, HA, IA, rA, acc, hDA, hzA, nx⟩ := hA
        exact app_ok (X := blkX X s3 H3 scope ce fp xe) IA hDA hzA rA fun sB IB => turned IB nx
  exact codeAny_compStart_list loop (T.self X.A 0 _ _ _ st4 loop)
end
/-! ### as a value, stored in a name -/
section
variable {X : Cx} {E : XK} {j : Nat} {elt tg iter : Expr} {ifs : List Expr} {scope : Scope} {own : List (Str × Nat)} {pos spos : Pos} {wi : TI} {g : TG} {tt : TT} {te : TE}
theorem pe_lcX (c : Ct X E j) (tk : Takes X (fun cls d _ H => E cls d H)) (hst : X.stack = X.env :: X.outer) (hfr : X.env.frame = some X.env.locals) (hi : PI X tg iter wi) (ok : BlkOk X.N X.env.scope scope own)
    (hg : BlkE X E j scope fun Y => PG Y tg g) (ht : BlkE X E j scope fun Y => PTs Y ifs tt) (he : BlkE X E j scope fun Y => PE Y elt te) (hfold : ∀ x, foldedSetIterable iter X.env x = pure x := by intro _; rfl) :
    PE X (.ListComp elt [⟨tg, iter, ifs, 0⟩] scope pos) (tLc wi g tt te (own.map (·.2))) := by
  refine ⟨fun pins s σ H Q I h => ?_⟩
  rw [eval_ListComp]
  refine lc_runX c tk hst hfr I hi ok hg.toI ht.toI he.toI hfold h fun D C s' m H' I' q hm f => ?_
  obtain ⟨f0, f1, f2, f3, f4, f5⟩ := f
  refine ⟨m, hm, fun h2 but => ⟨.ref D, H', ?_, rfl, q⟩⟩
  exact I'.turned (t' := s'.toks) (fun b o hb z => (but.2 b hb).trans z) f0 f1 f3 f4 f5
/-- a test that asks where the def stands -/
theorem pe_lcW {ttw : L2.St → TT} (c : Ct X E j) (tk : Takes X (fun cls d _ H => E cls d H)) (hst : X.stack = X.env :: X.outer) (hfr : X.env.frame = some X.env.locals) (hi : PI X tg iter wi) (ok : BlkOk X.N X.env.scope scope own)
    (hg : BlkE X E j scope fun Y => PG Y tg g) (ht : ∀ σ, BlkI X E j scope σ fun Y => PTs Y ifs (ttw σ)) (he : BlkE X E j scope fun Y => PE Y elt te) (hfold : ∀ x, foldedSetIterable iter X.env x = pure x := by intro _; rfl) :
    PE X (.ListComp elt [⟨tg, iter, ifs, 0⟩] scope pos) (fun σ H Q => tLc wi g (ttw σ) te (own.map (·.2)) σ H Q) := by
  refine ⟨fun pins s σ H Q I h => ?_⟩
  rw [eval_ListComp]
  refine lc_runX c tk hst hfr I hi ok hg.toI (ht σ) he.toI hfold h fun D C s' m H' I' q hm f => ?_
  obtain ⟨f0, f1, f2, f3, f4, f5⟩ := f
  refine ⟨m, hm, fun h2 but => ⟨.ref D, H', ?_, rfl, q⟩⟩
  exact I'.turned (t' := s'.toks) (fun b o hb z => (but.2 b hb).trans z) f0 f1 f3 f4 f5
theorem ps_setLcX {i : Nat} {y : Str} {py : Pos} (c : Ct X E j) (tk : Takes X (fun cls d _ H => E cls d H)) (hst : X.stack = X.env :: X.outer) (hfr : X.env.frame = some X.env.locals) (hy : X.N[i]? = some y) (hyl : X.env.scope.names.lookup y = some .local)
    (hsw : swapsWith (.ListComp elt [⟨tg, iter, ifs, 0⟩] scope pos) (some (.Name y py)) spos.line X.env = pure true) (hi : PI X tg iter wi) (ok : BlkOk X.N X.env.scope scope own)
    (hg : BlkE X E j scope fun Y => PG Y tg g) (ht : BlkE X E j scope fun Y => PTs Y ifs tt) (he : BlkE X E j scope fun Y => PE Y elt te) (hfold : ∀ x, foldedSetIterable iter X.env x = pure x := by intro _; rfl) :
    PS X (.Assign [.Name y py] (.ListComp elt [⟨tg, iter, ifs, 0⟩] scope pos) spos) (tAsg (tLc wi g tt te (own.map (·.2))) (gName i)) := by
  refine ⟨fun pins s σ H D I h => ?_⟩
  have h : tLc wi g tt te (own.map (·.2)) σ H (fun x H1 => gName i x σ H1 D.nx) := h
  rw [exec_Assign_Name_used _ _ _ _ hsw]
  refine wpAny_bind (wpAny_standAt (wpAny_bind ?_))
  show wpAny (model X.prog X.w) X.A (do let _ ← comprehension (.ListComp elt [⟨tg, iter, ifs, 0⟩] scope pos) scope X.env (firstIterPos [⟨tg, iter, ifs, 0⟩] pos) (newList []) false (eval iter X.env) (some (assign (.Name y py) X.env))) _ X.xe s
  refine wpAny_bind (thn (lc_runX (Qf := fun _ z => SP X pins D .next z) c tk hst hfr I hi ok hg.toI ht.toI he.toI hfold h fun L C s' m H' I' q hm f => ?_) fun _ z hz => wpAny_pure (wpAny_pure hz))
  obtain ⟨f0, f1, f2, f3, f4, f5⟩ := f
  show wpAny (model X.prog X.w) X.A (assign (.Name y py) X.env (.ref L)) _ X.xe s'
  refine wpAny_assign_Name (store_ok2 (v := V.ref L) I' c.nd hy (.inl hyl) rfl (fun s2 I2 ⟨a, but, ha⟩ => ?_) (.inr hyl))
  have nCa : C ≠ a := by
    rcases ha with z | z
    · rw [z]; exact f1
    · exact fun e => f4 y a z e.symm
  refine ⟨m, hm.sameBut but nCa, fun h3 but3 => ⟨_, H', ?_, q⟩⟩
  exact I2.turned (t' := s2.toks) (fun b o hb z => (but3.2 b hb).trans z) f0 f1 f3 f4 f5
end
/-! ### over data -/
def lcLX (tg : Tg) (tt : TTd) (te : TD) (ρ : DEnv) (G : Wd → Prop) (Ex : XD) : List D → List D → Wd → (List D → Wd → Prop) → Prop
  | [], acc, W, k => G W ∧ k acc W
  | x :: xs, acc, W, k => G W ∧ asgT tg x ρ W fun ρ2 W2 => tt ρ2 W2 (fun b W3 => if b = true then te ρ2 W3 (fun y W4 => lcLX tg tt te ρ G Ex xs (acc ++ [y]) W4 k) Ex else lcLX tg tt te ρ G Ex xs acc W3 k) E0d
def tdLcX (ti : TId) (tg : Tg) (tt : TTd) (te : TD) (vs : List Nat) : TD := fun ρ W Q E => ti ρ W (fun xs G W1 => xs.length ≤ sizeLine ∧ lcLX tg tt te (wipeS ρ vs) G E xs [] W1 fun acc W2 => Q (.lst acc) W2) E
@[simp ↓] theorem tdLcX_u (ti : TId) (tg : Tg) (tt : TTd) (te : TD) (vs : List Nat) : ∀ ρ W Q E, tdLcX ti tg tt te vs ρ W Q E = (ti ρ W (fun xs G W1 => xs.length ≤ sizeLine ∧ lcLX tg tt te (wipeS ρ vs) G E xs [] W1 fun acc W2 => Q (.lst acc) W2) E) := fun _ _ _ _ => propext Iff.rfl
theorem den_lcG {K : PySem.W.Frag} {E : XK} {wi : TI} {ti : TId} {tg : Tg} {tt : TTd} {te : TD} {vs : List Nat} (hv : ∀ i ∈ tg.slots, i ∈ vs)
    (di : ∀ {Z I : Hp} {W : Wd} {H : Hp} {σ : L2.St} {ρ : DEnv} {Rd : List D → (Wd → Prop) → Wd → Prop} {Ed : XD} {R : It → Hp → Prop}, SR K Z I W H → EnvR K I σ ρ → ti ρ W Rd Ed →
      (∀ xs G W' I' H' J, Same I I' → SR K Z I' W' H' → Iter K I' xs G J → Rd xs G W' → R J H') → SimX K Z I Ed E → wi σ H R)
    {Z I : Hp} {W : Wd} {H : Hp} {σ : L2.St} {ρ : DEnv} {Qk : List D → Wd → Prop} {Ed : XD} {Q : VK} (S : SR K Z I W H) (R : EnvR K I σ ρ)
    (h : ti ρ W (fun xs G W1 => xs.length ≤ sizeLine ∧ lcLX tg tt te (wipeS ρ vs) G Ed xs [] W1 Qk) Ed)
    (fin : ∀ D acc vacc I' W' H', Same I I' → Z D = none → SR K (upd Z D (.lst vacc)) I' W' H' → RepL K I' acc vacc → Qk acc W' → Q (.ref D) H') (sx : SimX K Z I Ed E) {tt0 : TT}
    (ht0 : ∀ {Z' I' : Hp} {W : Wd} {H : Hp} {σ' : L2.St} {ρ' : DEnv} {Qd : Bool → Wd → Prop} {Q : Bool → Hp → Prop}, Same I I' → SR K Z' I' W H → EnvR K I' σ' ρ' → tt ρ' W Qd E0d → SimB K Z' I' Qd Q → tt0 σ' H Q) :
    tLc wi (gOf K tg) tt0 (tOf K E te) vs σ H Q := by
  refine di S R h (fun xs G W1 I1 H1 J e1 S1 it h1 => ?_) sx
  obtain ⟨hz, h1⟩ := h1
  intro D hD
  have hZ := S1.newZ hD
  refine ⟨fun i m H' => m = xs.length - i ∧ i ≤ xs.length ∧ ∃ I' W' acc vacc, Same I1 I' ∧ SR K (upd Z D (.lst vacc)) I' W' H' ∧ RepL K I' acc vacc ∧ acc.length ≤ i ∧ lcLX tg tt te (wipeS ρ vs) G Ed (xs.drop i) acc W' Qk,
    ⟨xs.length, by simp, Nat.zero_le _, I1, W1, [], [], Same.refl _, S1.hide hD _, .nil, Nat.le_refl _, h1⟩, ?_⟩
  rintro i m H' ⟨rfl, hi, I', W', acc, vacc, e2, S2, ra, hacc, hl⟩
  have sx2 : SimX K (upd Z D (.lst vacc)) I' Ed E := simX_hide hZ (sx.mono (e1.trans e2))
  by_cases hlt : i < xs.length
  · have ed : xs.drop i = xs[i] :: xs.drop (i + 1) := List.drop_eq_getElem_cons hlt
    rw [ed] at hl
    obtain ⟨hG, hl⟩ := hl
    refine .inr ⟨it.go i _ I' W' H' hlt e2 S2 hG, fun H2 => ∃ I' W' acc vacc, Same I1 I' ∧ SR K (upd Z D (.lst vacc)) I' W' H2 ∧ RepL K I' acc vacc ∧ acc.length ≤ i + 1 ∧ lcLX tg tt te (wipeS ρ vs) G Ed (xs.drop (i + 1)) acc W' Qk,
      fun H2 q => ⟨xs.length - (i + 1), by omega, rfl, hlt, q⟩, fun x H2 y => ?_⟩
    obtain ⟨I2, e3, S3, rx⟩ := it.yld i xs[i] _ I' W' H' x H2 (by simp) e2 S2 hG y
    have e13 := e1.trans (e2.trans e3)
    refine g_sim S3 rx ((R.mono e13).wipe vs) hl fun σ' ρ' R' ht hw => ⟨?_, ?_⟩
    · have z := hw vs hv σ (wipe_wipe σ vs vs fun _ hi => hi)
      exact z
    · refine ht0 e13 S3 R' ht fun b W4 I4 H4 e4 S4 h4 => ?_
      cases b with
      | true =>
        simp only [if_true] at h4 ⊢
        refine ⟨_, I4, W4, ρ', _, Ed, S4, R'.mono e4, h4, fun y W5 v I5 H5 e5 S5 r5 h5 => ?_, sx2.mono (e3.trans e4)⟩
        obtain ⟨q1, q2, q3⟩ := S5.hidden
        have ra5 := ra.mono (e3.trans (e4.trans e5))
        refine ⟨vacc, q1, ?_, I5, W5, acc ++ [y], vacc ++ [v], e2.trans (e3.trans (e4.trans e5)), S5.rehide _, ra5.append (.cons r5 .nil), ?_, h5⟩
        · rw [← ra.length]; omega
        · rw [List.length_append, List.length_singleton]; omega
      | false =>
        simp only [Bool.false_eq_true, if_false] at h4 ⊢
        exact ⟨I4, W4, acc, vacc, e2.trans (e3.trans e4), S4, ra.mono (e3.trans e4), by omega, h4⟩
  · have e : i = xs.length := by omega
    subst e
    rw [List.drop_length] at hl
    obtain ⟨hG, hl⟩ := hl
    exact .inl ⟨it.stop _ I' W' H' e2 S2 hG, fin D acc vacc I' W' H' (e1.trans e2) hZ S2 ra hl⟩
theorem den_lcX {K : PySem.W.Frag} {E : XK} {wi : TI} {ti : TId} {tg : Tg} {tt : TTd} {te : TD} {vs : List Nat} (hv : ∀ i ∈ tg.slots, i ∈ vs)
    (di : ∀ {Z I : Hp} {W : Wd} {H : Hp} {σ : L2.St} {ρ : DEnv} {Rd : List D → (Wd → Prop) → Wd → Prop} {Ed : XD} {R : It → Hp → Prop}, SR K Z I W H → EnvR K I σ ρ → ti ρ W Rd Ed →
      (∀ xs G W' I' H' J, Same I I' → SR K Z I' W' H' → Iter K I' xs G J → Rd xs G W' → R J H') → SimX K Z I Ed E → wi σ H R)
    {Z I : Hp} {W : Wd} {H : Hp} {σ : L2.St} {ρ : DEnv} {Qk : List D → Wd → Prop} {Ed : XD} {Q : VK} (S : SR K Z I W H) (R : EnvR K I σ ρ)
    (h : ti ρ W (fun xs G W1 => xs.length ≤ sizeLine ∧ lcLX tg tt te (wipeS ρ vs) G Ed xs [] W1 Qk) Ed)
    (fin : ∀ D acc vacc I' W' H', Same I I' → Z D = none → SR K (upd Z D (.lst vacc)) I' W' H' → RepL K I' acc vacc → Qk acc W' → Q (.ref D) H') (sx : SimX K Z I Ed E) :
    tLc wi (gOf K tg) (ttOf K E tt) (tOf K E te) vs σ H Q :=
  den_lcG hv di S R h fin sx fun _ S R h sv => ⟨_, _, _, _, _, E0d, S, R, h, sv, fun _ _ _ _ _ _ _ _ _ _ _ q => q.elim⟩
section
variable {X : Cx} {E : XK} {j : Nat} {elt tg iter : Expr} {ifs : List Expr} {scope : Scope} {own : List (Str × Nat)} {pos spos : Pos} {ti : TId} {tgt : Tg} {tt : TTd} {te : TD}
theorem DTs.ptsE (h : DTs X E ifs tt) : PTs X ifs (ttOf X.K E tt) := h.pts
theorem de_lcX (c : Ct X E j) (tk : Takes X (fun cls d _ H => E cls d H)) (hi : DI X E tg iter ti) (ok : blkC X.N X.env.scope scope own = true)
    (hg : BlkE X E j scope fun Y => PGt Y tg tgt) (ht : BlkE X E j scope fun Y => DTs Y E ifs tt) (he : BlkE X E j scope fun Y => DE Y E elt te)
    (hv : ∀ i ∈ tgt.slots, i ∈ own.map (·.2) := by decide) (hfold : ∀ x, foldedSetIterable iter X.env x = pure x := by intro _; rfl) (hst : X.stack = X.env :: X.outer := by rfl) (hfr : X.env.frame = some X.env.locals := by rfl) :
    DE X E (.ListComp elt [⟨tg, iter, ifs, 0⟩] scope pos) (tdLcX ti tgt tt te (own.map (·.2))) := by
  obtain ⟨wi, p1, d1⟩ := hi.ex
  refine ⟨_, pe_lcX (g := gOf X.K tgt) (tt := ttOf X.K E tt) (te := tOf X.K E te) c tk hst hfr p1 (blkOk_by ok) (fun s H C cl fp xe q => (hg s H C cl fp xe q).pg) (fun s H C cl fp xe q => (ht s H C cl fp xe q).pts) (fun s H C cl fp xe q => (he s H C cl fp xe q).pe) hfold, fun {Z I W H σ ρ Qd Ed Q} S R h sv sx => ?_⟩
  refine den_lcX hv d1 S R h (fun D acc vacc I' W' H' e hZ S' ra q => ?_) sx
  obtain ⟨S2, e2⟩ := S'.unhide hZ
  exact sv _ W' _ _ H' (e.trans e2) S2 (.lst upd_same (ra.mono e2)) q
theorem ds_setLcX (i : Nat) {y : Str} {py : Pos} (c : Ct X E j) (tk : Takes X (fun cls d _ H => E cls d H)) (hi : DI X E tg iter ti) (ok : blkC X.N X.env.scope scope own = true)
    (hg : BlkE X E j scope fun Y => PGt Y tg tgt) (ht : BlkE X E j scope fun Y => DTs Y E ifs tt) (he : BlkE X E j scope fun Y => DE Y E elt te)
    (hy : X.N[i]? = some y := by rfl) (hyl : X.env.scope.names.lookup y = some .local := by rfl) (hsw : swapsWith (.ListComp elt [⟨tg, iter, ifs, 0⟩] scope pos) (some (.Name y py)) spos.line X.env = pure true := by exact sw_true rfl rfl rfl (by decide +kernel))
    (hv : ∀ i ∈ tgt.slots, i ∈ own.map (·.2) := by decide) (hfold : ∀ x, foldedSetIterable iter X.env x = pure x := by intro _; rfl) (hst : X.stack = X.env :: X.outer := by rfl) (hfr : X.env.frame = some X.env.locals := by rfl) :
    DS X E (.Assign [.Name y py] (.ListComp elt [⟨tg, iter, ifs, 0⟩] scope pos) spos) (tsAsg (tdLcX ti tgt tt te (own.map (·.2))) (.name i)) := by
  obtain ⟨wi, p1, d1⟩ := hi.ex
  refine ⟨_, ps_setLcX (g := gOf X.K tgt) (tt := ttOf X.K E tt) (te := tOf X.K E te) c tk hst hfr hy hyl hsw p1 (blkOk_by ok) (fun s H C cl fp xe q => (hg s H C cl fp xe q).pg) (fun s H C cl fp xe q => (ht s H C cl fp xe q).pts) (fun s H C cl fp xe q => (he s H C cl fp xe q).pe) hfold, ?_⟩
  refine den_asg (g := .name i) fun {Z I W H σ ρ Qd Ed Q} S R h sv sx => ?_
  refine den_lcX hv d1 S R h (fun D acc vacc I' W' H' e hZ S' ra q => ?_) sx
  obtain ⟨S2, e2⟩ := S'.unhide hZ
  exact sv _ W' _ _ H' (e.trans e2) S2 (.lst upd_same (ra.mono e2)) q
/-- the turns: till one raises -/
theorem lcLX_inv {α : Type} {ρ : DEnv} {G : Wd → Prop} {Ex : XD} {k : List D → Wd → Prop} (enc : α → D) (Inv : List α → List D → Wd → Prop) (h0 : ∀ acc W, Inv [] acc W → G W ∧ k acc W)
    (h1 : ∀ a as acc W (Nx : List D → Wd → Prop), Inv (a :: as) acc W → (∀ acc' W', Inv as acc' W' → Nx acc' W') → G W ∧ asgT tgt (enc a) ρ W fun ρ2 W2 => tt ρ2 W2 (fun b W3 => if b = true then te ρ2 W3 (fun y W4 => Nx (acc ++ [y]) W4) Ex else Nx acc W3) E0d) :
    ∀ (as : List α) (acc : List D) (W : Wd), Inv as acc W → lcLX tgt tt te ρ G Ex (as.map enc) acc W k
  | [], acc, W, h => h0 acc W h
  | a :: as, acc, W, h => h1 a as acc W (fun acc' W' => lcLX tgt tt te ρ G Ex (as.map enc) acc' W' k) h (fun acc' W' h' => lcLX_inv enc Inv h0 h1 as acc' W' h')
end
end DL

/-! DL29: lists times a number. -/
namespace DL
open PySem PySem.Spec PyProof.Rows L2
def dMulL : R2d := fun x y W Q => match x, y with
  | .lst xs, .int k => (0 ≤ k ∧ k ≤ 1000 ∧ xs.length ≤ 1000) ∧ Q (.lst (List.replicate k.toNat xs).flatten) W
  | _, _ => False
@[simp ↓] theorem dMulL_u : ∀ x y W Q, dMulL x y W Q = (match x, y with
  | .lst xs, .int k => (0 ≤ k ∧ k ≤ 1000 ∧ xs.length ≤ 1000) ∧ Q (.lst (List.replicate k.toNat xs).flatten) W
  | _, _ => False) := fun _ _ _ _ => propext Iff.rfl
section
variable {X : Cx}
theorem od_mulL : OpD X (binaryOp .Mult) dMulL := by
  refine ⟨_, op_rep, fun {Z I W H x y v u Qd Q} S rx ry h sv => ?_⟩
  unfold dMulL at h
  split at h
  · rename_i xs k
    cases ry
    obtain ⟨⟨k0, k1, k2⟩, q⟩ := h
    obtain ⟨a, vs, rfl, h1, h2⟩ := lst_view S rx rfl
    refine ⟨_, _, vs, rfl, rfl, h1, by omega, by omega, ?_, fun p hp => sim_lst S (h2.replicate _) sv hp q⟩
    rw [← h2.length, sizeLine_eq]
    have a1 := Nat.mul_le_mul k2 (show k.toNat ≤ 1000 by omega)
    omega
  · exact h.elim
end
end DL

/-! DL30: lambdas: made, kept, called by another def. -/
namespace DL
open PySem PySem.Spec PyProof.Rows L2
open LamX (TabB LamS lamCx lamEnv CodeO)
section
variable {X : Cx}
theorem ct_lam {A : Around} {outer : List Env} {s : Shared} {H : Hp} {E : XK} {scope : Scope} {f c' : Addr} {k : Nat} (nd : X.N.Nodup) (hr : Room k (A.deeper (lamEnv X scope s.heap.objs.size f c'))) : Ct (lamCx X A outer s H E scope f c') E k :=
  ⟨rfl, passes_of rfl, passes_call (takes_of rfl rfl rfl rfl) (fun _ _ _ _ h => h), hr, nd⟩
theorem upd_swap {H : Hp} {a b : Addr} {o u : HO} (h : a ≠ b) : upd (upd H a o) b u = upd (upd H b u) a o := by
  funext x
  unfold upd
  by_cases h1 : x = b
  · rw [if_pos h1, if_neg (fun z => h (z.symm.trans h1)), if_pos h1]
  · rw [if_neg h1]
    by_cases h2 : x = a
    · rw [if_pos h2, if_pos h2]
    · rw [if_neg h2, if_neg h2, if_neg h1]
/-- the object of a lambda that X has made: its code stands at c -/
def IsLam (X : Cx) (params : Arguments) (body : Expr) (scope : Scope) (o : Obj) (c : Addr) : Prop := ∃ pm ctv : Value, o = PySem.W.kla_obj "<lambda>" (X.env.qual ++ "<lambda>") params body scope (cloFrom X.env.cells scope.names []) pm c ctv
theorem tabI_app {I : Hp} {q : Str} {ps : Array Value} {pos : Pos} {c : Addr} (h : TabI I q ps) (hc : I c = some (CodeO c q)) : TabI I q (ps ++ #[rawInt pos.line, rawInt pos.col, .ref c]) := by
  have eL : (ps ++ #[rawInt pos.line, rawInt pos.col, .ref c]).toList = ps.toList ++ [rawInt pos.line, rawInt pos.col, .ref c] := by simp
  refine ⟨by rw [eL]; exact PySem.TriplesOk_snoc _ _ _ _ h.1, fun p' cv hcv => ?_⟩
  rw [eL] at hcv
  rcases LamX.among_app _ h.1 hcv with z | z
  · exact h.2 p' cv z
  · exact ⟨c, z, hc⟩
/-- a lambda is made: its code is new, or told by the table -/
def tLamMk (X : Cx) (P : Addr) (pos : Pos) (params : Arguments) (body : Expr) (scope : Scope) : TE := fun _ H Q => ∃ ps, H P = some (.tbl ps) ∧ TabI H (X.env.qual ++ "<lambda>") ps ∧
  (∀ f c o, codeAmong pos ps.toList = some (.ref c) → H f = none → IsLam X params body scope o c → Q (.ref f) (upd H f (fnO f o))) ∧
  ∀ f c o, H c = none → H f = none → f ≠ c → IsLam X params body scope o c → Q (.ref f) (upd (upd (upd H P (.tbl (ps ++ #[rawInt pos.line, rawInt pos.col, .ref c]))) c (CodeO c (X.env.qual ++ "<lambda>"))) f (fnO f o))
theorem pe_lamMk {c P : Addr} {params : Arguments} {body : Expr} {scope : Scope} {pos : Pos} (TB : TabB X.base X.mg c P) (hcode : X.env.code = .ref c) (L : LamS X.env.scope scope) (hdef : defaultsOf params X.env = ([], [])) :
    PE X (.Lambda params body scope pos) (tLamMk X P pos params body scope) := by
  refine ⟨fun pins s σ H Q I h => ?_⟩
  obtain ⟨ps, hP, ⟨ht, ha⟩, hit, miss⟩ := h
  have hfree := L.has I.ok
  refine PySem.W.kla_eval hdef ?_
  have bP : s.heap.BuiltinsAt X.mg P := TB.bm.keeps I.bk
  have hP' : s.heap.get? P = some { cls := .none, data := .fields ps } := I.hok P _ hP
  cases hc : codeAmong pos ps.toList with
  | none =>
    refine PySem.W.kla_makeFunction (mg := X.mg) (c := c) (P := P) (ps := ps) (closure_ok hfree) I.ok.glob (I.mod.glob.keeps I.bk) hcode (TB.code.keeps I.bk) hP' ht hc TB.gP bP fun c' ctv h' tk hx hge hlt hrec htb => ?_
    obtain ⟨c2, oc, vs, t, e2, hoc, hd, hv⟩ := hrec
    cases e2
    have hsz : s.heap.objs.size ≤ h'.objs.size := Nat.le_trans hge (Nat.le_of_lt hlt)
    have nC : H c' = none := I.hok.fresh hge
    have I1 := LamX.inv_table (t' := tk) (more := #[rawInt pos.line, rawInt pos.col, .ref c']) (h' := h') I hP (fun b o hb e => hx b o hb e) htb hge ⟨oc, vs, t, hoc, hd, hv⟩
    have I2 := I1.laid (t' := tk) (h' := h'.push (PySem.W.kla_obj "<lambda>" (X.env.qual ++ "<lambda>") params body scope (cloFrom X.env.cells scope.names []) ((X.mg "__name__").getD .none) c' ctv)) (a := h'.objs.size) (o := fnO h'.objs.size (PySem.W.kla_obj "<lambda>" (X.env.qual ++ "<lambda>") params body scope (cloFrom X.env.cells scope.names []) ((X.mg "__name__").getD .none) c' ctv))
      (fun b o e => Heap.get?_push_of_some _ e) (Nat.le_refl _) ⟨Heap.get?_push_size _ rfl, ⟨_, Heap.get?_push_size _ rfl⟩, fun h1 h2 e st => st _ e⟩
    exact ⟨.ref h'.objs.size, _, I2, rfl, miss _ c' _ nC (I.hok.fresh hsz) (Nat.ne_of_gt hlt) ⟨_, _, rfl⟩⟩
  | some cv =>
    obtain ⟨c', e, hco⟩ := ha pos cv hc
    subst e
    refine PySem.W.kla_makeFunctionHit (mg := X.mg) (c := c) (P := P) (ps := ps) (closure_ok hfree) I.ok.glob (I.mod.glob.keeps I.bk) hcode (TB.code.keeps I.bk) hP' ht hc bP fun ctv h' tk hx hsz => ?_
    have I1 : Inv X pins σ H { s with heap := h', toks := tk } := I.kept hx
    have I2 := I1.laid (t' := tk) (h' := h'.push (PySem.W.kla_obj "<lambda>" (X.env.qual ++ "<lambda>") params body scope (cloFrom X.env.cells scope.names []) ((X.mg "__name__").getD .none) c' ctv)) (a := h'.objs.size) (o := fnO h'.objs.size (PySem.W.kla_obj "<lambda>" (X.env.qual ++ "<lambda>") params body scope (cloFrom X.env.cells scope.names []) ((X.mg "__name__").getD .none) c' ctv))
      (fun b o e => Heap.get?_push_of_some _ e) (Nat.le_refl _) ⟨Heap.get?_push_size _ rfl, ⟨_, Heap.get?_push_size _ rfl⟩, fun h1 h2 e st => st _ e⟩
    exact ⟨.ref h'.objs.size, _, I2, rfl, hit _ c' _ hc (I.hok.fresh hsz) ⟨_, _, rfl⟩⟩
/-- over worlds: the table is a cell, the lambda becomes one; l: what the law calls it -/
def tdLam (P : Addr) (q : Str) (l : Obj → Addr → Prop) : TD := fun _ W Q _ => W P = some (.tab q) ∧ ∀ f o c, W f = none → l o c → Q (.ref f) (updW W f (.fn o c q))
@[simp ↓] theorem tdLam_u (P : Addr) (q : Str) (l : Obj → Addr → Prop) : ∀ ρ W Q E, tdLam P q l ρ W Q E = (W P = some (.tab q) ∧ ∀ f o c, W f = none → l o c → Q (.ref f) (updW W f (.fn o c q))) := fun _ _ _ _ => propext Iff.rfl
theorem updW_self {W : Wd} {a : Addr} {c : Cell} (h : W a = some c) : updW W a c = W := by
  funext b
  unfold updW
  split
  · rename_i e; rw [e, h]
  · rfl
theorem de_lam {E : XK} {c P : Addr} {params : Arguments} {body : Expr} {scope : Scope} {pos : Pos} (TB : TabB X.base X.mg c P) (hcode : X.env.code = .ref c) (L : LamS X.env.scope scope) (hdef : defaultsOf params X.env = ([], [])) :
    DE X E (.Lambda params body scope pos) (tdLam P (X.env.qual ++ "<lambda>") (IsLam X params body scope)) := by
  refine ⟨_, pe_lamMk TB hcode L hdef, fun {Z I W H σ ρ Qd Ed Q} S R h sv sx => ?_⟩
  obtain ⟨hW, h⟩ := h
  obtain ⟨nP, ps, hP, tI⟩ := S.cell P _ hW
  refine ⟨ps, hP, tI.mono S.imm, fun f c' o hc hf ho => ?_, fun f c' o hc hf ne ho => ?_⟩
  · obtain ⟨c2, e, hI⟩ := tI.2 pos _ hc
    cases e
    have S1 := S.put (p := f) (S.newI hf) (S.newZ hf) (o := fnO f o) (c := .fn o c' (X.env.qual ++ "<lambda>")) ⟨upd_same, hI⟩
    exact sv _ _ _ I _ (Same.refl I) S1 (.ref f) (h f o c' (S.newW hf) ho)
  · have hPc : P ≠ c' := ne_of_none hP hc
    have hPf : P ≠ f := ne_of_none hP hf
    obtain ⟨S1, e1⟩ := S.lay hc (CodeO c' (X.env.qual ++ "<lambda>"))
    have tI2 := tabI_app (pos := pos) (tI.mono e1) upd_same
    have S2 := S1.put (p := P) (by rw [upd_ne hPc]; exact nP) (S.noZ hW) (o := .tbl (ps ++ #[rawInt pos.line, rawInt pos.col, .ref c'])) (c := .tab (X.env.qual ++ "<lambda>")) ⟨_, upd_same, tI2⟩
    rw [updW_self hW, upd_swap (Ne.symm hPc)] at S2
    have hf2 : upd (upd H P (.tbl (ps ++ #[rawInt pos.line, rawInt pos.col, .ref c']))) c' (CodeO c' (X.env.qual ++ "<lambda>")) f = none := by rw [upd_ne ne, upd_ne (Ne.symm hPf)]; exact hf
    have S3 := S2.put (p := f) (S2.newI hf2) (S2.newZ hf2) (o := fnO f o) (c := .fn o c' (X.env.qual ++ "<lambda>")) ⟨upd_same, upd_same⟩
    exact sv _ _ _ _ _ e1 S3 (.ref f) (h f o c' (S.newW hf) ho)
/-- a(), in the def that got the lambda: the maker X stands at s -/
theorem pe_act2 {pins : List (Addr × Obj)} {σ : L2.St} {H : Hp} {s : Shared} {Eg : XK} {Ng : List Str} {qg : Str} {sg : Scope} {g f c' : Addr} {cdg : Value} {o : Obj} {params : Arguments} {body : Expr} {scope : Scope} {k i : Nat} {a : Str} {pn : List (Addr × Obj)} {xe : Value → Shared → Prop} {W : WX} {tb : XK → TE} {p1 p2 : Pos}
    (I : Inv X pins σ H s) (L : LamS X.env.scope scope) (ho : IsLam X params body scope o c')
    (hbind : ∀ (pm cv ctv : Value), bindArgs (PySem.W.kla_fn "<lambda>" (X.env.qual ++ "<lambda>") params body scope (cloFrom X.env.cells scope.names []) pm cv ctv) ⟨[], []⟩ = pure [])
    (tk : Takes ((cxOf (L2.CX X.prog X.w) X.prog X.w X.K X.mg X.base Ng qg sg g cdg X.A X.stack s H Eg).tr pn xe) W) (hr : Room (k + 1) (X.A.deeper (envOfC qg sg s.heap.objs.size g cdg)))
    (hbody : ∀ (A : Around) (outer : List Env) (s : Shared) (H : Hp) (E : XK), Room k (A.deeper (lamEnv X scope s.heap.objs.size f c')) → PE (lamCx X A outer s H E scope f c') body (tb E))
    (hN : Ng[i]? = some a) (hv : Vis sg a) (hd : (a == ("__debug__" : Str)) = false := by decide) (hcd : (a == ("__classdict__" : Str)) = false := by decide) :
    PE ((cxOf (L2.CX X.prog X.w) X.prog X.w X.K X.mg X.base Ng qg sg g cdg X.A X.stack s H Eg).tr pn xe) (.Call (.Name a p1) [] [] p2)
      (fun σZ HZ Q => σZ[i]? = some (some (.ref f)) ∧ HZ f = some (fnO f o) ∧ HZ c' = some (CodeO c' (X.env.qual ++ "<lambda>")) ∧ tb (WE W σZ) σ HZ Q) := by
  refine ⟨fun pinsZ sZ σZ HZ Q IZ h => ?_⟩
  obtain ⟨hs, hfo, hc, ht⟩ := h
  refine wpAny_Call_Name_kw (thn ((pe_var (pos := p1) (i := i) hN hv hd hcd).run pinsZ sZ σZ HZ (fun v H1 => v = .ref f ∧ H1 = HZ) IZ ⟨.ref f, hs, rfl, rfl⟩) fun u s1 ⟨v, H1, I1, r1, q1⟩ => ?_)
  obtain ⟨ev, eH⟩ := q1
  subst ev
  rw [eH] at I1
  obtain rfl : u = Value.ref f := r1
  obtain ⟨pm, ctv, rfl⟩ := ho
  obtain ⟨of1, _, _⟩ := I1.hok f _ hfo
  refine PySem.W.callWith_F0 ⟨_, _, _, _, of1⟩ ?_
  have un : Un (frs X.stack) [] H HZ s.heap s1.heap := I1.base
  obtain ⟨⟨oc, vs, t, hoc, hdc, hvc⟩, _, _⟩ := I1.hok c' _ hc
  have rc : codeAny (model X.prog X.w) (X.A.deeper (envOfC qg sg s.heap.objs.size g cdg)) (.call (.ref f) ⟨[], []⟩) (CR (L2.CX X.prog X.w) (envOfC qg sg s.heap.objs.size g cdg :: X.stack) X.prog X.w HZ s1 Q (WE W σZ)) s1 := by
    refine PySem.W.kla_callFunE hr.depth of1 rfl L.co L.gen rfl ⟨c', oc, vs, t, rfl, hoc, hdc, hvc⟩ ?_
    rw [hbind]
    refine wpAny_pure (wpAny_newFunctionEnv (fun y hy => (L.own y hy).2) (fun y hy => absurd hy (by simp)) (fun h₁ hns hsb => ⟨I1.nolimit.fresh _ hsb, ?_⟩) L.kind)
    show codeAny _ _ (.expr body (lamEnv X scope s1.heap.objs.size f c')) _ _
    have kp : ∀ b o, s1.heap.get? b = some o → h₁.get? b = some o := fun b o e => hsb.extBut b o (Nat.ne_of_lt (Heap.lt_size e)) (Heap.get?_push_of_some _ e)
    have J : Inv (lamCx X (X.A.deeper (envOfC qg sg s.heap.objs.size g cdg)) (envOfC qg sg s.heap.objs.size g cdg :: X.stack) s1 HZ (WE W σZ) scope f c') [] σ HZ { s1 with heap := h₁, toks := s1.toks + ([] : List (Str × Value)).length } :=
      LamX.lam_start2 I L I1.env0 hr.hd un hns kp
    refine PySem.W.kla_codeExpr (wpAny_mono ((hbody _ _ s1 HZ _ (hr.deeper _)).run [] _ _ HZ Q J ht) (fun v s' hq => ?_) fun e s' hq => hq)
    obtain ⟨w', H', J', rv, q⟩ := hq
    exact ⟨w', H', J'.os, J'.bare, J'.base, J'.hok, rv, q⟩
  refine wpAny_call (codeAny_mono rc fun r s' hq => ?_)
  cases r with
  | error e => exact passAt tk σZ pinsZ HZ s1 e s' I1 hq
  | ok fl =>
    cases fl with
    | ret u => exact I1.after hq
    | next => exact False.elim hq
    | brk => exact False.elim hq
    | cont => exact False.elim hq
end
end DL

/-! DL31: a def that calls the lambda it got, within try. -/
namespace DL
open PySem PySem.Spec PyProof.Rows L2
open LamX (TabB LamS lamCx lamEnv CodeO)
/-- a def x(a): try: a() / except y as nm: suite; then the rest -/
structure WordD (P : Program) (w : World) (K : PySem.W.Frag) (mg : Str → Option Value) (base : Heap) (C : CC) (known : Addr → Prop) (CA : Addr) (k : Nat) (x : Str) (i n : Nat) (tsu : Addr → Addr → Option Addr → TSd) (trest : TSd) : Prop where
  kn : ∀ c, known c → XT K C c ∧ PySem.W.exmOne K (.ref c) (.ref CA) = some true
  ex : ∃ (g : Addr) (fd : FuncData) (st : Stmt) (Ng : List Str) (a y nm : Str) (p1 p2 p3 np pos pos' : Pos) (b₀ : Stmt) (suite rest : List Stmt),
    Fun K x x st g fd ∧ FnScope Ng [a] (defScope st) ∧ Binds K fd [a] [] ∧ mg x = some (.ref g) ∧ defBody st = Stmt.Try [.Expr (.Call (.Name a p1) [] [] p2) p3] [.ExceptHandler (some (.Name y np)) (some nm) (b₀ :: suite) pos'] [] [] pos :: rest ∧
    Ng.length = n ∧ Ng[0]? = some a ∧ Vis (defScope st) a ∧ ((a == ("__debug__" : Str)) = false ∧ (a == ("__classdict__" : Str)) = false) ∧ Ng[i]? = some nm ∧
    ∀ (cdv : Value) (A : Around) (outer : List Env) (s : Shared) (H : Hp),
      (cxOf (L2.CX P w) P w K mg base Ng x (defScope st) g cdv A outer s H L2.E0).env.kindOf nm = some .local ∧ Names (cxOf (L2.CX P w) P w K mg base Ng x (defScope st) g cdv A outer s H L2.E0) y (.ref CA) ∧
      swapsWith (.Call (.Name a p1) [] [] p2) none p3.line (cxOf (L2.CX P w) P w K mg base Ng x (defScope st) g cdv A outer s H L2.E0).env = pure false ∧
      (∀ (a1 : Addr) (oe : Obj) (c : Addr) (d : Option Addr) (pn : List (Addr × Obj)), XT K C c → Zc (.ref c) d oe → (∃ vs, oe.data = .fields vs) → DSs ((cxOf (L2.CX P w) P w K mg base Ng x (defScope st) g cdv A outer s H L2.E0).suite a1 ((a1, oe) :: pn)) L2.E0 (b₀ :: suite) (tsu a1 c d)) ∧
      (Ct (cxOf (L2.CX P w) P w K mg base Ng x (defScope st) g cdv A outer s H L2.E0) L2.E0 k → DSs (cxOf (L2.CX P w) P w K mg base Ng x (defScope st) g cdv A outer s H L2.E0) L2.E0 rest trest)
section
variable {X : Cx} {C : CC} {known : Addr → Prop} {CA : Addr} {k : Nat} {x : Str} {i n : Nat} {tsu : Addr → Addr → Option Addr → TSd} {trest : TSd}
/-- what is asked of a lambda of X -/
structure LamOk (X : Cx) (k : Nat) (params : Arguments) (body : Expr) (scope : Scope) (td : TD) : Prop where
  sc : LamS X.env.scope scope
  bind : ∀ (q : Str) (cl : List (Str × Addr)) (pm cv ctv : Value), bindArgs (PySem.W.kla_fn "<lambda>" q params body scope cl pm cv ctv) ⟨[], []⟩ = pure []
  de : ∀ (A : Around) (outer : List Env) (s : Shared) (H : Hp) (E : XK) (f c' : Addr), Ct (lamCx X A outer s H E scope f c') E k → DE (lamCx X A outer s H E scope f c') E body td
/-- the reading of the def's body, where q is what the lambda does -/
def tdWordB (known : Addr → Prop) (tsu : Addr → Addr → Option Addr → TSd) (trest : TSd) (i n : Nat) (tq : Wd → QD → XD → Prop) (f : Addr) (Q : QD) (W : Wd) : Prop :=
  tsSeq (tsTry known (fun _ W Q E => tq W Q E) tdNil tsu i) trest { nx := fun _ W' => Q .non W', rt := Q, ex := E0d } (startN n [.ref f]) W
theorem word_run (wd : WordD X.prog X.w X.K X.mg X.base C known CA k x i n tsu trest) (hr : Room (k + 2) X.A) (nd : X.N.Nodup) {pins : List (Addr × Obj)} {σ : L2.St} {H : Hp} {s : Shared} (I : Inv X pins σ H s) {Z I0 : Hp} {W : Wd} {ρ : DEnv} (S : SR X.K Z I0 W H) (R : EnvR X.K I0 σ ρ)
    {f c : Addr} {o : Obj} {params : Arguments} {body : Expr} {scope : Scope} {td : TD} (hW : W f = some (.fn o c (X.env.qual ++ "<lambda>"))) (ho : IsLam X params body scope o c) (lo : LamOk X k params body scope td) {Qd : QD} {Q : VK}
    (h : tdWordB known tsu trest i n (fun W Q E => td ρ W Q E) f Qd W) (sv : SimV X.K Z I0 Qd Q) :
    ∃ g, X.mg x = some (.ref g) ∧ PySem.W.keepIn X.K (.ref g) = true ∧ codeAny (model X.prog X.w) X.A (.call (.ref g) ⟨[.ref f], []⟩) (CR (L2.CX X.prog X.w) X.stack X.prog X.w H s Q L2.E0) s := by
  obtain ⟨g, fd, st, Ng, a, y, nm, p1, p2, p3, np, pos, pos', b₀, suite, rest, F, Sg, hb, hm, hbd, hn, h0, hva, ⟨hd1, hd2⟩, hi, hall⟩ := wd.ex
  obtain ⟨oc, od, kV, doc, pm, an, cdv, ct, osl, rfl, lk, hcd⟩ := F.ex
  refine ⟨g, hm, F.kp, ?_⟩
  refine LamX.run_ofS (N := Ng) (ps := [a]) (us := [.ref f]) (vs := [.ref f]) lk hcd Sg hr I.env0 (hb s [.ref f] I.kIn rfl) (.cons rfl .nil) rfl fun hr' => ?_
  obtain ⟨hk, hnames, hsw, hsu, hrest⟩ := hall cdv X.A X.stack s H
  have cc : Ct (cxOf (L2.CX X.prog X.w) X.prog X.w X.K X.mg X.base Ng x (defScope st) g cdv X.A X.stack s H L2.E0) L2.E0 k := (ct_of Sg.nd hr').mono (Nat.le_succ k)
  obtain ⟨tr, pr, dr⟩ := (hrest cc).ex
  have tk : Takes (cxOf (L2.CX X.prog X.w) X.prog X.w X.K X.mg X.base Ng x (defScope st) g cdv X.A X.stack s H L2.E0) (fun cls d _ H => L2.E0 cls d H) := takes_of rfl rfl rfl rfl
  have hb' : ∀ (W : WX) (pn : List (Addr × Obj)) (xe : Value → Shared → Prop), Takes ((cxOf (L2.CX X.prog X.w) X.prog X.w X.K X.mg X.base Ng x (defScope st) g cdv X.A X.stack s H L2.E0).tr pn xe) W →
      PassesOwn (model X.prog X.w) (cxOf (L2.CX X.prog X.w) X.prog X.w X.K X.mg X.base Ng x (defScope st) g cdv X.A X.stack s H L2.E0).A (cxOf (L2.CX X.prog X.w) X.prog X.w X.K X.mg X.base Ng x (defScope st) g cdv X.A X.stack s H L2.E0).env xe →
      PSs ((cxOf (L2.CX X.prog X.w) X.prog X.w X.K X.mg X.base Ng x (defScope st) g cdv X.A X.stack s H L2.E0).tr pn xe) [.Expr (.Call (.Name a p1) [] [] p2) p3]
        (tDrop fun σZ HZ Q => σZ[0]? = some (some (.ref f)) ∧ HZ f = some (fnO f o) ∧ HZ c = some (CodeO c (X.env.qual ++ "<lambda>")) ∧ tOf X.K (WE W σZ) td σ HZ Q) := fun W pn xe tkW own =>
    pss_one (ps_expr (pe_act2 (k := k) (i := 0) (tb := fun E => tOf X.K E td) I lo.sc ho (fun pm cv ctv => lo.bind _ _ pm cv ctv) tkW hr' (fun A outer s H E hr2 => (lo.de A outer s H E f c (ct_lam nd hr2)).pe) h0 hva hd1 hd2) hsw)
  have hsu' : ∀ (a1 : Addr) (oe : Obj) (cls : Value) (d : Option Addr) (pn : List (Addr × Obj)), Zc cls d oe → (∃ vs, oe.data = .fields vs) →
      PSs ((cxOf (L2.CX X.prog X.w) X.prog X.w X.K X.mg X.base Ng x (defScope st) g cdv X.A X.stack s H L2.E0).suite a1 ((a1, oe) :: pn)) (b₀ :: suite) (fun D σ H => ∃ c, cls = .ref c ∧ known c ∧ tsOf X.K L2.E0 (tsu a1 c d) D σ H) := fun a1 oe cls d pn hz hfl => by
    refine ⟨fun pins s σ H D I h => ?_⟩
    obtain ⟨c, rfl, hkc, h⟩ := h
    exact ((hsu a1 oe c d pn (wd.kn c hkc).1 hz hfl).pss).run pins s σ H D I h
  have pt := ps_try_as (pos := pos) (np := np) (pos' := pos') (i := i) (n := nm) (ts := fun a1 cls d D σ H => ∃ c, cls = .ref c ∧ known c ∧ tsOf X.K L2.E0 (tsu a1 c d) D σ H) rfl rfl Sg.nd hi hk hnames tk hb' hsu'
  show ∃ t, PSs _ (defBody st) t ∧ _
  rw [hbd]
  refine ⟨_, pss_cons pt pr, ?_⟩
  -- the reading
  have Rs : EnvR X.K I0 (L2.start Ng [.ref f]) (startN n [.ref f]) := by
    rw [← hn, ← startS_eq]
    refine EnvR.start (.cons (.ref f) .nil) ?_
    exact (List.getElem?_eq_some_iff.mp h0).1
  obtain ⟨fI, _, fH, fC⟩ : I0 f = none ∧ True ∧ H f = some (fnO f o) ∧ I0 c = some (CodeO c (X.env.qual ++ "<lambda>")) := by
    obtain ⟨q1, q2, q3⟩ := S.cell f _ hW
    exact ⟨q1, trivial, q2, q3⟩
  have hs0 : (L2.start Ng [V.ref f])[0]? = some (some (.ref f)) := by
    cases Ng with
    | nil => simp at h0
    | cons b r => rfl
  have kk : SimE X.K Z I0 L2.E0 { nx := fun _ W' => Qd .non W', rt := Qd, ex := E0d } { nx := fun _ H' => Q .non H', rt := Q } := ⟨fun ρ W' σ I' H' e S' R' q => sv _ W' _ I' H' e S' .non q, sv, fun _ _ _ _ _ _ _ _ q => q.elim, fun _ _ _ _ _ _ _ _ q => q.elim, simX0⟩
  refine ⟨hs0, fH, S.imm _ _ fC, Z, I0, W, ρ, _, _, S, R, h, fun v W2 u I2 H2 e2 S2 r2 q => ?_, fun c1 fs W2 I2 H2 dx fv e2 S2 rG ex hEd => ?_⟩
  · exact dr S2 (Rs.mono e2) q (kk.mono e2)
  · obtain ⟨hkc, hx⟩ := hEd
    refine ⟨true, (wd.kn c1 hkc).2, fun _ a1 ha => ⟨c1, rfl, hkc, ?_⟩, fun z => by cases z⟩
    obtain ⟨hx0, hS⟩ := hx a1 (S2.newW ha)
    have R2 := (Rs.mono e2).set (.ref a1) i
    have k2 : SimE X.K Z I2 L2.E0 { nx := fun ρ W => trest { nx := fun _ W' => Qd .non W', rt := Qd, ex := E0d } ρ W, rt := Qd, ex := E0d } { nx := tr { nx := fun _ H' => Q .non H', rt := Q }, rt := Q } :=
      ⟨fun ρ W' σ I' H' e S' R' q => dr S' R' q (kk.mono (e2.trans e)), (sv.mono e2), fun _ _ _ _ _ _ _ _ q => q.elim, fun _ _ _ _ _ _ _ _ q => q.elim, simX0⟩
    cases dx with
    | none =>
      have : fv = [] := ex
      subst this
      cases rG
      exact ⟨Z, I2, W2, _, _, S2, R2, hx0 rfl, ⟨fun ρ' W' σ' I' H' e S' R' q => k2.nx _ W' _ I' H' e S' (R'.clr i) q, fun d W' v I' H' e S' r q => k2.rt d W' v I' H' e S' r q, fun ρ' W' σ' I' H' e S' R' q => q.elim, fun ρ' W' σ' I' H' e S' R' q => q.elim, fun _ _ _ _ _ _ _ _ _ _ _ q => q.elim⟩⟩
    | some dd =>
      obtain ⟨x1, x2, x3, x4⟩ := ex
      exact ⟨Z, I2, updW W2 dd (.xd fs), _, _, S2.addX x2 x3 ⟨fv, x1, rG⟩, R2, hS dd x4, ⟨fun ρ' W' σ' I' H' e S' R' q => k2.nx _ _ _ I' H' e S'.drop (R'.clr i) q, fun d W' v I' H' e S' r q => k2.rt d _ v I' H' e S'.drop r q, fun ρ' W' σ' I' H' e S' R' q => q.elim, fun ρ' W' σ' I' H' e S' R' q => q.elim, fun _ _ _ _ _ _ _ _ _ _ _ q => q.elim⟩⟩
/-- x(e), e a lambda of the maker's -/
def tdWord (ta : TD) (q : Str) (Lt : Obj → Addr → TD → Prop) (known : Addr → Prop) (tsu : Addr → Addr → Option Addr → TSd) (trest : TSd) (i n : Nat) : TD := fun ρ W Q E => ta ρ W (fun d W1 => ∃ f o c td, d = .ref f ∧ W1 f = some (.fn o c q) ∧ Lt o c td ∧ tdWordB known tsu trest i n (fun W Q E => td ρ W Q E) f Q W1) E
@[simp ↓] theorem tdWord_u (ta : TD) (q : Str) (Lt : Obj → Addr → TD → Prop) (known : Addr → Prop) (tsu : Addr → Addr → Option Addr → TSd) (trest : TSd) (i n : Nat) : ∀ ρ W Q E, tdWord ta q Lt known tsu trest i n ρ W Q E = (ta ρ W (fun d W1 => ∃ f o c td, d = .ref f ∧ W1 f = some (.fn o c q) ∧ Lt o c td ∧ tdWordB known tsu trest i n (fun W Q E => td ρ W Q E) f Q W1) E) := fun _ _ _ _ => propext Iff.rfl
/-- what is asked of a value that is handed to x -/
def WordP (X : Cx) (Lt : Obj → Addr → TD → Prop) (known : Addr → Prop) (tsu : Addr → Addr → Option Addr → TSd) (trest : TSd) (i n : Nat) (σ : L2.St) (v : V) (H1 : Hp) (Q : VK) : Prop :=
  ∃ (Z I : Hp) (W : Wd) (ρ : DEnv) (Qd : QD) (f : Addr) (o : Obj) (c : Addr) (td : TD), SR X.K Z I W H1 ∧ EnvR X.K I σ ρ ∧ v = .ref f ∧ W f = some (.fn o c (X.env.qual ++ "<lambda>")) ∧ Lt o c td ∧ tdWordB known tsu trest i n (fun W Q E => td ρ W Q E) f Qd W ∧ SimV X.K Z I Qd Q
theorem vals1 {v : V} {us : List Value} (r : Vals [v] us) : ∃ u, us = [u] ∧ L2.RelV v u := by
  cases r with
  | cons ru rn => cases rn; exact ⟨_, rfl, ru⟩
/-- x is called with what WordP tells of, from a context with the maker's frames -/
theorem word_call (wd : WordD X.prog X.w X.K X.mg X.base C known CA k x i n tsu trest) (hr : Room (k + 2) X.A) (nd : X.N.Nodup) {Lt : Obj → Addr → TD → Prop}
    (hLt : ∀ o c td, Lt o c td → ∃ params body scope, IsLam X params body scope o c ∧ LamOk X k params body scope td) {pins : List (Addr × Obj)} {σ : L2.St} {H : Hp} {s : Shared} (I : Inv X pins σ H s) {v : V} {u : Value} (ru : L2.RelV v u) {Q : VK} (h : WordP X Lt known tsu trest i n σ v H Q) :
    ∃ g, X.mg x = some (.ref g) ∧ PySem.W.keepIn X.K (.ref g) = true ∧ codeAny (model X.prog X.w) X.A (.call (.ref g) ⟨[u], []⟩) (CR (L2.CX X.prog X.w) X.stack X.prog X.w H s Q L2.E0) s := by
  obtain ⟨Z, I0, W, ρ, Qd, f, o, c, td, S, R, rfl, hW, hL, hb, sv⟩ := h
  obtain rfl : u = Value.ref f := ru
  obtain ⟨params, body, scope, ho, lo⟩ := hLt o c td hL
  exact word_run wd hr nd I S R hW ho lo hb sv
theorem word_g (wd : WordD X.prog X.w X.K X.mg X.base C known CA k x i n tsu trest) : ∃ g, X.mg x = some (.ref g) ∧ PySem.W.keepIn X.K (.ref g) = true := by
  obtain ⟨g0, fd0, st0, Ng0, a0, y0, nm0, _, _, _, _, _, _, _, _, _, F0, _, _, hm, _⟩ := wd.ex
  exact ⟨g0, hm, F0.kp⟩
def tWord (t1 : TE) (P : L2.St → V → Hp → VK → Prop) : TE := fun σ H Q => t1 σ H (fun v H1 => P σ v H1 Q)
theorem pe_word {e : Expr} {t1 : TE} {p pos : Pos} (wd : WordD X.prog X.w X.K X.mg X.base C known CA k x i n tsu trest) (hr : Room (k + 2) X.A) (nd : X.N.Nodup) {Lt : Obj → Addr → TD → Prop}
    (hLt : ∀ o c td, Lt o c td → ∃ params body scope, IsLam X params body scope o c ∧ LamOk X k params body scope td) (ha : PE X e t1) (hg : Gl X x) (hdb : (x == ("__debug__" : Str)) = false) (he : starEach [e] X.env = (false, eval e X.env) :: starEach [] X.env) (hpl : (backTo pos (starEach [] X.env)).any (·.1) = false) :
    PE X (.Call (.Name x p) [e] [] pos) (tWord t1 (WordP X Lt known tsu trest i n)) := by
  obtain ⟨g, hm, hk⟩ := word_g wd
  refine ⟨fun pins s σ H Q I h => ?_⟩
  refine wpAny_Call_Name_kw (ld_glob I hg hm ?_ hdb)
  refine PySem.W.callWith_K (h₀ := X.base) I.ok.mod.kin hk (thn ((pa_cons ha pa_nil he).run pos pins s σ H (fun vs H1 => ∃ v, vs = [v] ∧ WordP X Lt known tsu trest i n σ v H1 Q) I ?_) fun us s1 hh => ?_) he hpl
  · show t1 σ H (fun v H1 => ∃ v', [v] = [v'] ∧ WordP X Lt known tsu trest i n σ v' H1 Q)
    have e : (fun v H1 => ∃ v', [v] = [v'] ∧ WordP X Lt known tsu trest i n σ v' H1 Q) = fun v H1 => WordP X Lt known tsu trest i n σ v H1 Q := by
      funext v H1
      exact propext ⟨fun ⟨v', e, h⟩ => by cases e; exact h, fun h => ⟨v, rfl, h⟩⟩
    rw [e]
    exact h
  · obtain ⟨vs, H1, I1, r, v, rfl, hw⟩ := hh
    obtain ⟨u, rfl, ru⟩ := vals1 r
    refine ⟨I1.kIn, ?_⟩
    obtain ⟨g2, hm2, _, rc⟩ := word_call wd hr nd hLt I1 ru hw
    rw [hm] at hm2
    cases hm2
    refine wpAny_call (codeAny_mono rc fun r s' hq => ?_)
    cases r with
    | error e => exact (show False from by obtain ⟨_, _, _, _, _, _, _, _, _, _, _, _, z⟩ := hq; exact z).elim
    | ok fl =>
      cases fl with
      | ret u => exact I1.after hq
      | next => exact False.elim hq
      | brk => exact False.elim hq
      | cont => exact False.elim hq
theorem de_word {E : XK} {j : Nat} {e : Expr} {ta : TD} {q : Str} {Lt : Obj → Addr → TD → Prop} {p pos : Pos} (cx : Ct X E j) (wd : WordD X.prog X.w X.K X.mg X.base C known CA k x i n tsu trest) (ha : DE X E e ta) (hq : q = X.env.qual ++ "<lambda>")
    (hLt : ∀ o c td, Lt o c td → ∃ params body scope, IsLam X params body scope o c ∧ LamOk X k params body scope td) (hk : k + 2 ≤ j := by decide) (hg : Gl X x := by rfl)
    (hdb : (x == ("__debug__" : Str)) = false := by decide) (he : starEach [e] X.env = (false, eval e X.env) :: starEach [] X.env := by rfl) (hpl : (backTo pos (starEach [] X.env)).any (·.1) = false := by rfl) :
    DE X E (.Call (.Name x p) [e] [] pos) (tdWord ta q Lt known tsu trest i n) := by
  subst hq
  obtain ⟨t1, p1, d1⟩ := ha.ex
  refine ⟨_, pe_word wd (cx.room.mono hk) cx.nd hLt p1 hg hdb he hpl, fun {Z I W H σ ρ Qd Ed Q} S R h sv sx => ?_⟩
  refine d1 S R h (fun v W1 u I1 H1 e1 S1 r1 hh => ?_) sx
  obtain ⟨f, o, c, td, rfl, hW, hL, hb⟩ := hh
  cases r1
  exact ⟨Z, I1, W1, ρ, Qd, f, o, c, td, S1, R.mono e1, rfl, hW, hL, hb, sv.mono e1⟩
/-! ### the same in a comprehension's test: [y for y in l if x(y) != e2] -/
/-- in a block of the maker's that began at s3 -/
theorem pt_wordB {pins3 : List (Addr × Obj)} {σ0 : L2.St} {H3 : Hp} {s3 : Shared} {scope : Scope} {ce : Env} {fp : List Addr} {xe : Value → Shared → Prop} {iy : Nat} {y : Str} {p py pos : Pos} (wd : WordD X.prog X.w X.K X.mg X.base C known CA k x i n tsu trest) (hr : Room (k + 2) X.A) (nd : X.N.Nodup) {Lt : Obj → Addr → TD → Prop}
    (hLt : ∀ o c td, Lt o c td → ∃ params body scope, IsLam X params body scope o c ∧ LamOk X k params body scope td)
    (I3 : Inv X pins3 σ0 H3 s3) (hfp : ∀ b ∈ fp, FpOk X pins3 H3 b) (hN : X.N[iy]? = some y) (hv : Vis ce.scope y)
    (hd : (y == ("__debug__" : Str)) = false) (hcd : (y == ("__classdict__" : Str)) = false) (hg : Gl (blkX X s3 H3 scope ce fp xe) x) (hdb : (x == ("__debug__" : Str)) = false) (he : starEach [.Name y py] ce = (false, eval (.Name y py) ce) :: starEach [] ce) (hpl : (backTo pos (starEach [] ce)).any (·.1) = false) :
    PE (blkX X s3 H3 scope ce fp xe) (.Call (.Name x p) [.Name y py] [] pos) (fun σ H Q => ∃ v, σ[iy]? = some (some v) ∧ WordP X Lt known tsu trest i n σ0 v H Q) := by
  obtain ⟨g, hm, hk⟩ := word_g wd
  refine ⟨fun pins s σ H Q I h => ?_⟩
  obtain ⟨v, hv1, hw⟩ := h
  have ha : PE (blkX X s3 H3 scope ce fp xe) (.Name y py) _ := pe_var (pos := py) (i := iy) hN hv hd hcd
  refine wpAny_Call_Name_kw (ld_glob I hg hm ?_ hdb)
  refine PySem.W.callWith_K (h₀ := X.base) I.ok.mod.kin hk (thn ((pa_cons ha pa_nil he).run pos pins s σ H (fun vs H1 => vs = [v] ∧ H1 = H) I ⟨v, hv1, rfl, rfl⟩) fun us s1 hh => ?_) he hpl
  obtain ⟨vs, H1, I1, r, rfl, rfl⟩ := hh
  obtain ⟨u, rfl, ru⟩ := vals1 r
  refine ⟨I1.kIn, ?_⟩
  have IX : Inv X pins3 σ0 H1 s1 := I3.call' (ch := fp) I1.os I1.base I1.hok I1.bare fun b hb => ⟨(hfp b hb).2.2.2.1, (hfp b hb).2.1, (hfp b hb).2.2.2.2.1, (hfp b hb).2.2.2.2.2⟩
  obtain ⟨g2, hm2, _, rc⟩ := word_call wd hr nd hLt IX ru hw
  rw [hm] at hm2
  cases hm2
  refine wpAny_call (codeAny_mono rc fun r s' hq => ?_)
  cases r with
  | error e => exact (show False from by obtain ⟨_, _, _, _, _, _, _, _, _, _, _, _, z⟩ := hq; exact z).elim
  | ok fl =>
    cases fl with
    | ret u => exact I1.after hq
    | next => exact False.elim hq
    | brk => exact False.elim hq
    | cont => exact False.elim hq
end
end DL

/-! DL32: lambdas in a comprehension's test. -/
namespace DL
open PySem PySem.Spec PyProof.Rows L2
open LamX (TabB LamS lamCx lamEnv CodeO)
section
variable {X : Cx} {C : CC} {known : Addr → Prop} {CA : Addr} {k : Nat} {x : Str} {i n : Nat} {tsu : Addr → Addr → Option Addr → TSd} {trest : TSd}
/-- the test x(y) <op> z, y the comprehension's own name; ρ0: the def's names -/
def ttWord (q : Str) (Lt : Obj → Addr → TD → Prop) (known : Addr → Prop) (tsu : Addr → Addr → Option Addr → TSd) (trest : TSd) (i n iy : Nat) (r : R2d) (z : D) (ρ0 : DEnv) : TTd := fun ρ W Q _ => ∃ d, getS ρ iy = some d ∧
  ∃ f o c td, d = .ref f ∧ W f = some (.fn o c q) ∧ Lt o c td ∧ tdWordB known tsu trest i n (fun W Q E => td ρ0 W Q E) f (fun v W1 => r v z W1 (fun b W2 => match b with | .bl b => Q b W2 | _ => False)) W
def ttWordR (K : PySem.W.Frag) (tt : DEnv → TTd) (σ0 : L2.St) : TT := fun σ H Q => ∃ (Z I : Hp) (W : Wd) (ρ ρ0 : DEnv) (Qd : Bool → Wd → Prop), SR K Z I W H ∧ EnvR K I σ ρ ∧ EnvR K I σ0 ρ0 ∧ tt ρ0 ρ W Qd E0d ∧ SimB K Z I Qd Q
theorem sim_B {K : PySem.W.Frag} {Z I : Hp} {Qd : Bool → Wd → Prop} {Q : Bool → Hp → Prop} (sv : SimB K Z I Qd Q) : SimV K Z I (fun b W2 => match b with | .bl b => Qd b W2 | _ => False) (fun v H => ∃ b, v = .bl b ∧ Q b H) := fun d W v I' H e S r h => by
  cases d <;> first
    | exact h.elim
    | (cases r; exact ⟨_, rfl, sv _ W I' H e S h⟩)
theorem pts_word {pins3 : List (Addr × Obj)} {σ0 : L2.St} {H3 : Hp} {s3 : Shared} {scope : Scope} {ce : Env} {fp : List Addr} {xe : Value → Shared → Prop} {iy : Nat} {y : Str} {p py pos pos2 : Pos} {op : CmpOp} {r : R2d} {e2 : Expr} {z : D} {q : Str} {Lt : Obj → Addr → TD → Prop} {E : XK}
    (wd : WordD X.prog X.w X.K X.mg X.base C known CA k x i n tsu trest) (hr : Room (k + 2) X.A) (nd : X.N.Nodup) (hq : q = X.env.qual ++ "<lambda>")
    (hLt : ∀ o c td, Lt o c td → ∃ params body scope, IsLam X params body scope o c ∧ LamOk X k params body scope td)
    (I3 : Inv X pins3 σ0 H3 s3) (hfp : ∀ b ∈ fp, FpOk X pins3 H3 b) (hN : X.N[iy]? = some y) (hv : Vis ce.scope y)
    (hd : (y == ("__debug__" : Str)) = false) (hcd : (y == ("__classdict__" : Str)) = false) (hg : Gl (blkX X s3 H3 scope ce fp xe) x) (hdb : (x == ("__debug__" : Str)) = false) (he : starEach [.Name y py] ce = (false, eval (.Name y py) ce) :: starEach [] ce) (hpl : (backTo pos (starEach [] ce)).any (·.1) = false)
    (ho : OpD (blkX X s3 H3 scope ce fp xe) (compareOp op) r) (h2 : DE (blkX X s3 H3 scope ce fp xe) E e2 (tdC z)) (hm : behindInMarks op e2 = false) :
    PTs (blkX X s3 H3 scope ce fp xe) [.Compare (.Call (.Name x p) [.Name y py] [] pos) [op] [e2] pos2] (ttWordR X.K (ttWord q Lt known tsu trest i n iy r z) σ0) := by
  subst hq
  obtain ⟨rr, pr, dr⟩ := ho.ex
  obtain ⟨t2, p2, d2⟩ := h2.ex
  have p1 := pt_wordB (xe := xe) (p := p) (py := py) (pos := pos) (iy := iy) wd hr nd hLt I3 hfp hN hv hd hcd hg hdb he hpl
  have pt := pts_one (pt_cmpR (pos := pos2) pr p1 p2 hm)
  refine ⟨fun pins s σ H Q I h => pt.run pins s σ H Q I ?_⟩
  obtain ⟨Z, I0, W, ρ, ρ0, Qd, S, R, R0, ⟨d, hdd, f, o, c, td, rfl, hW, hL, hb⟩, sv⟩ := h
  obtain ⟨v, hv1, rv⟩ := R.get hdd
  cases rv
  refine ⟨.ref f, hv1, Z, I0, W, ρ0, _, f, o, c, td, S, R0, rfl, hW, hL, hb, fun d1 W1 v1 I1 H1 e1 S1 r1 h1 => ?_⟩
  refine d2 (Qd := fun y W2 => r d1 y W2 (fun b W3 => match b with | .bl b => Qd b W3 | _ => False)) (Ed := E0d) S1 (R.mono e1) h1 (fun y W2 u I2 H2 e2 S2 r2 h2 => ?_) (fun _ _ _ _ _ _ _ _ _ _ _ q => q.elim)
  exact dr S2 (r1.mono e2) r2 h2 ((sim_B sv).mono (e1.trans e2))
def tdLcW (ti : TId) (tg : Tg) (tt : DEnv → TTd) (te : TD) (vs : List Nat) : TD := fun ρ W Q E => tdLcX ti tg (tt ρ) te vs ρ W Q E
@[simp ↓] theorem tdLcW_u (ti : TId) (tg : Tg) (tt : DEnv → TTd) (te : TD) (vs : List Nat) : ∀ ρ W Q E, tdLcW ti tg tt te vs ρ W Q E = tdLcX ti tg (tt ρ) te vs ρ W Q E := fun _ _ _ _ => rfl
theorem de_lcW {E : XK} {j : Nat} {elt tg iter : Expr} {ifs : List Expr} {scope : Scope} {own : List (Str × Nat)} {pos : Pos} {ti : TId} {tgt : Tg} {tt : DEnv → TTd} {te : TD} (c : Ct X E j) (tk : Takes X (fun cls d _ H => E cls d H)) (hi : DI X E tg iter ti) (ok : blkC X.N X.env.scope scope own = true)
    (hg : BlkE X E j scope fun Y => PGt Y tg tgt) (ht : ∀ σ, BlkI X E j scope σ fun Y => PTs Y ifs (ttWordR X.K tt σ)) (he : BlkE X E j scope fun Y => DE Y E elt te)
    (hv : ∀ i ∈ tgt.slots, i ∈ own.map (·.2) := by decide) (hfold : ∀ x, foldedSetIterable iter X.env x = pure x := by intro _; rfl) (hst : X.stack = X.env :: X.outer := by rfl) (hfr : X.env.frame = some X.env.locals := by rfl) :
    DE X E (.ListComp elt [⟨tg, iter, ifs, 0⟩] scope pos) (tdLcW ti tgt tt te (own.map (·.2))) := by
  obtain ⟨wi, p1, d1⟩ := hi.ex
  refine ⟨_, pe_lcW (g := gOf X.K tgt) (ttw := ttWordR X.K tt) (te := tOf X.K E te) c tk hst hfr p1 (blkOk_by ok) (fun s H C cl fp xe q => (hg s H C cl fp xe q).pg) ht (fun s H C cl fp xe q => (he s H C cl fp xe q).pe) hfold, fun {Z I W H σ ρ Qd Ed Q} S R h sv sx => ?_⟩
  refine den_lcG hv d1 S R h (fun D acc vacc I' W' H' e hZ S' ra q => ?_) sx fun e S' R' h' sv' => ⟨_, _, _, _, ρ, _, S', R', R.mono e, h', sv'⟩
  obtain ⟨S2, e2⟩ := S'.unhide hZ
  exact sv _ W' _ _ H' (e.trans e2) S2 (.lst upd_same (ra.mono e2)) q
/-- [y for y in l if x(y) <op> z] -/
theorem de_lcWord {E : XK} {j : Nat} {iter : Expr} {scope : Scope} {pos p py py2 py3 pos1 pos2 : Pos} {ti : TId} {iy : Nat} {y : Str} {op : CmpOp} {r : R2d} {e2 : Expr} {z : D} {q : Str} {Lt : Obj → Addr → TD → Prop} (c : Ct X E j) (tk : Takes X (fun cls d _ H => E cls d H)) (wd : WordD X.prog X.w X.K X.mg X.base C known CA k x i n tsu trest) (hi : DI X E (.Name y py2) iter ti) (ok : blkC X.N X.env.scope scope [(y, iy)] = true)
    (hq : q = X.env.qual ++ "<lambda>") (hLt : ∀ o c td, Lt o c td → ∃ params body scope, IsLam X params body scope o c ∧ LamOk X k params body scope td)
    (hg : BlkE X E j scope fun Y => PGt Y (.Name y py2) (.name iy)) (he : BlkE X E j scope fun Y => DE Y E (.Name y py3) (tdVar iy))
    (ho : BlkE X E j scope fun Y => OpD Y (compareOp op) r) (h2 : BlkE X E j scope fun Y => DE Y E e2 (tdC z))
    (hk : k + 2 ≤ j := by decide) (hN : X.N[iy]? = some y := by rfl) (hvis : ∀ cl C, Vis (compEnvC scope cl C X.env).scope y := by intro _ _; exact .inl rfl)
    (hd : (y == ("__debug__" : Str)) = false := by decide) (hcd : (y == ("__classdict__" : Str)) = false := by decide) (hgl : ∀ cl C, (compEnvC scope cl C X.env).scope.names.lookup x = some .globalImplicit := by intro _ _; rfl)
    (hdb : (x == ("__debug__" : Str)) = false := by decide) (hse : ∀ cl C, starEach [.Name y py] (compEnvC scope cl C X.env) = (false, eval (.Name y py) (compEnvC scope cl C X.env)) :: starEach [] (compEnvC scope cl C X.env) := by intro _ _; rfl)
    (hpl : ∀ cl C, (backTo pos1 (starEach [] (compEnvC scope cl C X.env))).any (·.1) = false := by intro _ _; rfl) (hm : behindInMarks op e2 = false := by first | exact nomark _ | with_unfolding_all rfl)
    (hfold : ∀ x, foldedSetIterable iter X.env x = pure x := by intro _; rfl) (hst : X.stack = X.env :: X.outer := by rfl) (hfr : X.env.frame = some X.env.locals := by rfl) :
    DE X E (.ListComp (.Name y py3) [⟨.Name y py2, iter, [.Compare (.Call (.Name x p) [.Name y py] [] pos1) [op] [e2] pos2], 0⟩] scope pos) (tdLcW ti (.name iy) (ttWord q Lt known tsu trest i n iy r z) (tdVar iy) [iy]) :=
  de_lcW (own := [(y, iy)]) c tk hi ok hg (fun σ pins s H C cl fp xe I hfp cB => pts_word wd (c.room.mono hk) c.nd hq hLt I hfp hN (hvis cl C) hd hcd (hgl cl C) hdb (hse cl C) (hpl cl C) (ho s H C cl fp xe cB) (h2 s H C cl fp xe cB) hm) he (by simp [Tg.slots]) hfold hst hfr
end
end DL

/-! DL33: a law that makes lambdas itself: its own table. -/
namespace DL
open PySem PySem.Spec PyProof.Rows L2
open LamX (TabB LamS lamCx lamEnv CodeO)
section
variable {P : Program} {w : World} {K : PySem.W.Frag} {mg : Str → Option Value} {base : Heap}
theorem fn_lam {x qual : Str} {st : Stmt} {f c : Addr} {kV doc pm ct oc : Value} {an od : Option Addr} {osl : Array (Option Value)} {N ps : List Str} {k n : Nat} {spd : SpD}
    (lk : K.lookup f = some ⟨oc, od, .func (PySem.W.fnOf x qual (defArgs st) (defBody st) (defScope st) .none kV doc pm an (.ref c) ct), osl⟩) (hcd : PySem.W.codeIn K (.ref c) qual = true) (S : FnScope N ps (defScope st)) (hn : N.length = n) (len : ∀ ds W Q E, spd ds W Q E → ds.length = ps.length)
    (hbody : ∀ (A : Around) (outer : List Env) (s : Shared) (H : Hp) (E : XK), Ct (cxOf (L2.CX P w) P w K mg base N qual (defScope st) f (.ref c) A outer s H E) E k →
      ∃ td, DSs (cxOf (L2.CX P w) P w K mg base N qual (defScope st) f (.ref c) A outer s H E) E (defBody st) td ∧ ∀ ds W Qd Ed, spd ds W Qd Ed → td { nx := fun _ W' => Qd .non W', rt := Qd, ex := Ed } (startN n ds) W) :
    FnOk P w K mg base (L2.CX P w) (k + 1) f (PySem.W.fnOf x qual (defArgs st) (defBody st) (defScope st) .none kV doc pm an (.ref c) ct) ps (liftS K spd) := by
  refine fn_of lk hcd S (fun vs H Q E h => ?_) fun A outer s H vs Q E hr h => ?_
  · obtain ⟨Z, I, W, ds, Qd, Ed, _, r, h, _⟩ := h
    rw [← r.length]; exact len _ _ _ _ h
  · obtain ⟨Z, I, W, ds, Qd, Ed, S1, r, h, sv, sx⟩ := h
    obtain ⟨td, hd, hq⟩ := hbody A outer s H E (ct_of S.nd hr)
    obtain ⟨t, p, d⟩ := hd.ex
    have hl : vs.length ≤ N.length := by
      have h1 := len _ _ _ _ h
      have h2 := congrArg List.length S.pre
      rw [List.length_take] at h2
      rw [← r.length]; omega
    have q := hq ds W Qd Ed h
    rw [← hn, ← startS_eq] at q
    exact ⟨t, p, d S1 (EnvR.start r hl) q ⟨fun ρ W' σ I' H' e S' R' q => sv _ W' _ I' H' e S' .non q, sv, fun _ _ _ _ _ _ _ _ q => q.elim, fun _ _ _ _ _ _ _ _ q => q.elim, sx⟩⟩
theorem hsp_ofT {K : PySem.W.Frag} {spd : SpD} {P : Addr} {q : Str} (h : ∀ ns : List Int, spd [.scr ns] (fun b => if b = P then some (.tab q) else none) (fun d _ => d = .bl true) (fun _ _ _ => False)) (H : Hp) (a : Addr) (ns : List Int) (hP : H P = some (.tbl #[])) (hS : SqL K H a (ns.map V.int)) :
    liftS K spd [.ref a] H (fun v _ => v = .bl true) fun _ _ _ => False := by
  have eI : ∀ b, b ≠ P → (if b = P then none else H b) = H b := fun b hb => if_neg hb
  have S : SR K (fun _ => none) (fun b => if b = P then none else H b) (fun b => if b = P then some (.tab q) else none) H := by
    refine ⟨fun b o e => ?_, fun b c e => ?_, fun _ _ e => by cases e⟩
    · by_cases hb : b = P
      · rw [if_pos hb] at e; cases e
      · rw [if_neg hb] at e; exact e
    · by_cases hb : b = P
      · subst hb
        rw [if_pos rfl] at e
        cases e
        exact ⟨if_pos rfl, #[], hP, True.intro, fun pos cv hc => by have z : codeAmong pos [] = some cv := hc; simp [codeAmong] at z⟩
      · rw [if_neg hb] at e; cases e
  have hS' : SqL K (fun b => if b = P then none else H b) a (ns.map V.int) := by
    have na : ∀ o, H a = some o → (∀ ps, o ≠ .tbl ps) → (fun b => if b = P then none else H b) a = some o := fun o e n => by
      have : a ≠ P := fun z => by subst z; rw [hP] at e; cases e; exact n _ rfl
      show (if a = P then none else H a) = _
      rw [if_neg this]; exact e
    rcases hS with (h | ⟨o, h⟩) | h
    · exact .inl (.inl (na _ h (fun _ z => by cases z)))
    · exact .inl (.inr ⟨o, na _ h (fun _ z => by cases z)⟩)
    · exact .inr h
  refine ⟨fun _ => none, _, _, [.scr ns], _, _, S, .cons (.scr hS') .nil, h ns, fun d W v I' H' _ _ r q => ?_, fun _ _ _ _ _ _ _ _ _ _ _ h => h⟩
  subst q; cases r; rfl
end
@[simp ↓] theorem tdWordB_u (known : Addr → Prop) (tsu : Addr → Addr → Option Addr → TSd) (trest : TSd) (i n : Nat) (tq : Wd → QD → XD → Prop) (f : Addr) (Q : QD) (W : Wd) : tdWordB known tsu trest i n tq f Q W = tsSeq (tsTry known (fun _ W Q E => tq W Q E) tdNil tsu i) trest { nx := fun _ W' => Q .non W', rt := Q, ex := E0d } (startN n [.ref f]) W := propext Iff.rfl
/-- which lambda it is, and what it does -/
def LtW (ls : List ((Obj → Addr → Prop) × TD)) : Obj → Addr → TD → Prop := fun o c td => ∃ z ∈ ls, z.1 o c ∧ td = z.2
end DL

/-! SM0: laws of data, for simp. -/
namespace DL
open PySem PySem.Spec PyProof.Rows L2

theorem ofString_inj {a b : String} (h : Str.ofString a = Str.ofString b) : a = b := by
  rw [Str.ofString_eq_toList, Str.ofString_eq_toList] at h
  have h1 : a.toList.map Char.toNat = b.toList.map Char.toNat := by
    have := congrArg Str.cps h
    simpa using this
  have inj : ∀ l m : List Char, l.map Char.toNat = m.map Char.toNat → l = m := by
    intro l
    induction l with
    | nil => intro m h; cases m <;> simp at h ⊢
    | cons c l ih =>
      intro m h
      cases m with
      | nil => simp at h
      | cons d m =>
        simp only [List.map_cons, List.cons.injEq] at h
        rw [ih m h.2, Char.ext (UInt32.toNat_inj.mp h.1)]
  have h2 : a.toList = b.toList := inj _ _ h1
  exact String.toList_inj.mp h2
@[simp] theorem str_inj {a b : String} : (Str.ofString a = Str.ofString b) ↔ a = b := ⟨ofString_inj, congrArg _⟩
@[simp] theorem str_beq {a b : String} : (Str.ofString a == Str.ofString b) = (a == b) := by
  cases h : a == b with
  | true => simp at h; subst h; simp
  | false => simp at h ⊢; exact h
@[simp] theorem strOk_of (a : String) : PyData.strOk (Str.ofString a) = true := by
  rw [Str.ofString_eq_toList]
  unfold PyData.strOk
  simp only [List.all_toArray, List.all_map, List.all_eq_true, Function.comp_apply, decide_eq_true_eq]
  intro c _
  have := c.valid
  have h2 : c.toNat = c.val.toNat := rfl
  rcases this with h | ⟨_, h⟩
  · rw [h2]; omega
  · rw [h2]; omega
/-! eqD -/
def eqDL (xs ys : List D) : Bool := PyData.eqvAll (toPyL xs) (toPyL ys)
@[simp] theorem eqD_int (a b : Int) : eqD (.int a) (.int b) = decide (a = b) := by
  simp only [eqD, toPy, PyData.eqv]; cases h : a == b <;> simp_all
@[simp] theorem eqD_str (a b : Str) : eqD (.str a) (.str b) = decide (a = b) := by
  simp only [eqD, toPy, PyData.eqv]; cases h : a == b <;> simp_all
@[simp] theorem eqD_bl (a b : Bool) : eqD (.bl a) (.bl b) = decide (a = b) := by
  simp only [eqD, toPy, PyData.eqv]; cases a <;> cases b <;> rfl
@[simp] theorem eqD_non : eqD .non .non = true := by simp [eqD, toPy, PyData.eqv]
@[simp] theorem eqD_tup (a b : List D) : eqD (.tup a) (.tup b) = eqDL a b := by simp [eqD, eqDL, toPy, PyData.eqv]
@[simp] theorem eqD_lst (a b : List D) : eqD (.lst a) (.lst b) = eqDL a b := by simp [eqD, eqDL, toPy, PyData.eqv]
@[simp] theorem eqD_non_tup (b : List D) : eqD .non (.tup b) = false := by simp [eqD, toPy, PyData.eqv]
@[simp] theorem eqD_tup_non (b : List D) : eqD (.tup b) .non = false := by simp [eqD, toPy, PyData.eqv]
@[simp] theorem eqD_non_int (b : Int) : eqD .non (.int b) = false := by simp [eqD, toPy, PyData.eqv]
@[simp] theorem eqD_int_non (b : Int) : eqD (.int b) .non = false := by simp [eqD, toPy, PyData.eqv]
@[simp] theorem eqD_str_int (a : Str) (b : Int) : eqD (.str a) (.int b) = false := by simp [eqD, toPy, PyData.eqv]
@[simp] theorem eqD_int_str (a : Str) (b : Int) : eqD (.int b) (.str a) = false := by simp [eqD, toPy, PyData.eqv]
@[simp] theorem eqDL_nil : eqDL [] [] = true := by simp [eqDL, toPyL, PyData.eqvAll]
@[simp] theorem eqDL_nc (x : D) (xs : List D) : eqDL [] (x :: xs) = false := by simp [eqDL, toPyL, PyData.eqvAll]
@[simp] theorem eqDL_cn (x : D) (xs : List D) : eqDL (x :: xs) [] = false := by simp [eqDL, toPyL, PyData.eqvAll]
@[simp] theorem eqDL_cc (x y : D) (xs ys : List D) : eqDL (x :: xs) (y :: ys) = (eqD x y && eqDL xs ys) := by simp [eqDL, eqD, toPyL, PyData.eqvAll]
theorem eqDL_map {α : Type} {f : α → D} (hf : ∀ a b, eqD (f a) (f b) = true ↔ a = b) : ∀ xs ys : List α, eqDL (xs.map f) (ys.map f) = true ↔ xs = ys
  | [], [] => by simp
  | [], _ :: _ => by simp
  | _ :: _, [] => by simp
  | a :: as, b :: bs => by simp [hf, eqDL_map hf as bs]
@[simp] theorem eqDL_ints (xs ys : List Int) : eqDL (xs.map D.int) (ys.map D.int) = decide (xs = ys) := by
  rw [Bool.eq_iff_iff, eqDL_map (f := D.int) (by simp), decide_eq_true_iff]
@[simp] theorem eqDL_ints_nil (xs : List Int) : eqDL (xs.map D.int) [] = decide (xs = []) := by cases xs <;> simp
@[simp] theorem eqDL_nil_ints (xs : List Int) : eqDL [] (xs.map D.int) = decide (xs = []) := by cases xs <;> simp
/-! okD -/
@[simp] theorem okD_str (n : Nat) (a : String) : okD n (.str (Str.ofString a)) = true := by
  cases n <;> simp [okD, PyData.canLay0]
@[simp] theorem okD_int (n : Nat) (a : Int) : okD n (.int a) = true := by cases n <;> simp [okD]
@[simp] theorem okD_bl (n : Nat) (a : Bool) : okD n (.bl a) = true := by cases n <;> simp [okD]
@[simp] theorem okD_non (n : Nat) : okD n .non = true := by cases n <;> simp [okD]
@[simp] theorem okD_tup (n : Nat) (xs : List D) : okD (n + 1) (.tup xs) = okL n xs := by simp [okD]
@[simp] theorem okD_lst (n : Nat) (xs : List D) : okD (n + 1) (.lst xs) = okL n xs := by simp [okD]
@[simp] theorem okD_tup64 (xs : List D) : okD 64 (.tup xs) = okL 63 xs := by simp [okD]
@[simp] theorem okD_lst64 (xs : List D) : okD 64 (.lst xs) = okL 63 xs := by simp [okD]
@[simp] theorem okD_tup63 (xs : List D) : okD 63 (.tup xs) = okL 62 xs := by simp [okD]
@[simp] theorem okD_lst63 (xs : List D) : okD 63 (.lst xs) = okL 62 xs := by simp [okD]
@[simp] theorem okD_tup62 (xs : List D) : okD 62 (.tup xs) = okL 61 xs := by simp [okD]
@[simp] theorem okD_lst62 (xs : List D) : okD 62 (.lst xs) = okL 61 xs := by simp [okD]
@[simp] theorem okD_tup61 (xs : List D) : okD 61 (.tup xs) = okL 60 xs := by simp [okD]
@[simp] theorem okL_nil (n : Nat) : okL n [] = true := by simp [okL]
@[simp] theorem okL_cons (n : Nat) (x : D) (xs : List D) : okL n (x :: xs) = (okD n x && okL n xs) := by simp [okL]
theorem okL_map {α : Type} {f : α → D} {n : Nat} : ∀ xs : List α, (∀ a ∈ xs, okD n (f a) = true) → okL n (xs.map f) = true
  | [], _ => by simp
  | a :: as, h => by
    simp only [List.map_cons, okL_cons, Bool.and_eq_true]
    exact ⟨h a List.mem_cons_self, okL_map as fun b hb => h b (List.mem_cons_of_mem _ hb)⟩
@[simp] theorem okL_ints (n : Nat) (xs : List Int) : okL n (xs.map D.int) = true := okL_map xs fun a _ => okD_int n a
theorem okL_append (n : Nat) (xs ys : List D) : okL n (xs ++ ys) = (okL n xs && okL n ys) := by
  induction xs with
  | nil => simp
  | cons a as ih => simp [ih, Bool.and_assoc]
mutual
theorem eqD_refl : ∀ (n : Nat) (d : D), okD n d = true → eqD d d = true
  | _, .non, _ => by simp
  | _, .bl _, _ => by simp
  | _, .int _, _ => by simp
  | _, .str _, _ => by simp
  | 0, .tup _, h => by simp [okD] at h
  | n + 1, .tup xs, h => by simp only [eqD_tup]; exact eqDL_refl n xs (by simpa using h)
  | 0, .lst _, h => by simp [okD] at h
  | n + 1, .lst xs, h => by simp only [eqD_lst]; exact eqDL_refl n xs (by simpa using h)
  | _, .dk _, h => by simp [okD] at h
  | _, .ins _ _, h => by simp [okD] at h
  | _, .scr _, h => by simp [okD] at h
  | _, .ref _, h => by simp [okD] at h
  | _, .dn _ _, h => by simp [okD] at h
theorem eqDL_refl : ∀ (n : Nat) (d : List D), okL n d = true → eqDL d d = true
  | _, [], _ => by simp
  | n, x :: xs, h => by
    simp only [okL_cons, Bool.and_eq_true] at h
    simp only [eqDL_cc, Bool.and_eq_true]
    exact ⟨eqD_refl n x h.1, eqDL_refl n xs h.2⟩
end
/-! memD -/
@[simp] theorem memD_nil (x : D) : memD x [] = false := rfl
@[simp] theorem memD_cons (x y : D) (ys : List D) : memD x (y :: ys) = (eqD y x || memD x ys) := by simp [memD]
@[simp high] theorem memD_int_cons (x y : Int) (ys : List D) : memD (.int x) (.int y :: ys) = (decide (x = y) || memD (.int x) ys) := by
  rw [memD_cons, eqD_int]; simp only [eq_comm]
@[simp high] theorem memD_str_cons (x y : Str) (ys : List D) : memD (.str x) (.str y :: ys) = (decide (x = y) || memD (.str x) ys) := by
  rw [memD_cons, eqD_str]; simp only [eq_comm]
@[simp] theorem memD_ints (x : Int) (ys : List Int) : memD (.int x) (ys.map D.int) = decide (x ∈ ys) := by
  induction ys with
  | nil => simp
  | cons a as ih =>
    simp only [List.map_cons, memD_cons, ih, eqD_int, List.mem_cons, Bool.decide_or]
    congr 1
    simp only [eq_comm]
/-! places -/
def optQ (o : Option D) (Q : QD) (W : Wd) : Prop := match o with
  | some d => Q d W
  | none => False
@[simp] theorem optQ_some (d : D) (Q : QD) (W : Wd) : optQ (some d) Q W = Q d W := rfl
@[simp] theorem optQ_none (Q : QD) (W : Wd) : optQ none Q W = False := rfl
@[simp] theorem dIx_lst (xs : List D) (i : Int) (W : Wd) (Q : QD) : dIx (.lst xs) (.int i) W Q = optQ (getI xs i) Q W := by
  unfold dIx optQ; rfl
@[simp] theorem dIx_tup (xs : List D) (i : Int) (W : Wd) (Q : QD) : dIx (.tup xs) (.int i) W Q = optQ (getI xs i) Q W := by
  unfold dIx optQ; rfl
@[simp] theorem dIx_scr (xs : List Int) (i : Int) (W : Wd) (Q : QD) : dIx (.scr xs) (.int i) W Q = optQ ((getI xs i).map D.int) Q W := by
  have e : dIx (.scr xs) (.int i) W Q = (match getI xs i with
    | some n => Q (.int n) W
    | none => False) := by unfold dIx; rfl
  rw [e]; cases getI xs i <;> rfl
@[simp] theorem dIx_dk (xs : List (Str × D)) (s : Str) (W : Wd) (Q : QD) : dIx (.dk xs) (.str s) W Q = optQ (xs.lookup s) Q W := by
  unfold dIx optQ; rfl
def cellL : Option Cell → Option (List D)
  | some (.lst xs) => some xs
  | _ => none
@[simp] theorem cellL_lst (xs : List D) : cellL (some (.lst xs)) = some xs := rfl
@[simp] theorem dIx_ref (a : Addr) (i : Int) (W : Wd) (Q : QD) : dIx (.ref a) (.int i) W Q = optQ ((cellL (W a)).bind fun xs => getI xs i) Q W := by
  unfold dIx
  simp only
  cases h : W a with
  | none => rfl
  | some c => cases c <;> rfl
def cellK : Option Cell → Option (List (Str × D))
  | some (.dk xs) => some xs
  | _ => none
@[simp] theorem cellK_dk (xs : List (Str × D)) : cellK (some (.dk xs)) = some xs := rfl
@[simp] theorem dIx_refk (a : Addr) (k : Str) (W : Wd) (Q : QD) : dIx (.ref a) (.str k) W Q = optQ ((cellK (W a)).bind fun xs => xs.lookup k) Q W := by
  unfold dIx
  simp only
  cases h : W a with
  | none => rfl
  | some c => cases c <;> rfl
theorem getI_last {α : Type} (xs : List α) (x : α) : getI (xs ++ [x]) (-1) = some x := by
  unfold getI
  simp only [List.length_append, List.length_singleton]
  rw [if_neg (by omega), if_pos (by omega)]
  have e : ((-1 : Int) + ((xs.length + 1 : Nat) : Int)).toNat = xs.length := by omega
  rw [e]
  simp
@[simp] theorem getI_zero {α : Type} (x : α) (xs : List α) : getI (x :: xs) 0 = some x := rfl
@[simp] theorem getI_one {α : Type} (x y : α) (xs : List α) : getI (x :: y :: xs) 1 = some y := rfl
@[simp] theorem getI_two {α : Type} (x y z : α) (xs : List α) : getI (x :: y :: z :: xs) 2 = some z := rfl
@[simp] theorem getI_three {α : Type} (x y z u : α) (xs : List α) : getI (x :: y :: z :: u :: xs) 3 = some u := rfl
@[simp] theorem getI_four {α : Type} (x y z u v : α) (xs : List α) : getI (x :: y :: z :: u :: v :: xs) 4 = some v := rfl
@[simp] theorem getI_five {α : Type} (x y z u v w : α) (xs : List α) : getI (x :: y :: z :: u :: v :: w :: xs) 5 = some w := rfl
@[simp] theorem getI_map {α β : Type} (f : α → β) (xs : List α) (i : Int) : getI (xs.map f) i = (getI xs i).map f := by
  unfold getI
  simp only [List.length_map, List.getElem?_map]
  split
  · rfl
  · split <;> rfl
@[simp] theorem getI_b (α : Type) (x y : α) (p : Prop) [Decidable p] : getI [x, y] (if p then 1 else 0) = some (if p then y else x) := by split <;> rfl
theorem getI_nat {α : Type} (xs : List α) (i : Nat) : getI xs (i : Int) = xs[i]? := by
  unfold getI
  rw [if_pos (by omega)]
  rfl
theorem getI_some {α : Type} {xs : List α} {i : Int} (h0 : 0 ≤ i) (h1 : i < xs.length) : ∃ x, getI xs i = some x ∧ x ∈ xs := by
  unfold getI
  rw [if_pos h0]
  have hl : i.toNat < xs.length := by omega
  exact ⟨xs[i.toNat], by rw [List.getElem?_eq_getElem hl], List.getElem_mem hl⟩
/-! fields, methods -/
def fldD (C : Addr) (f : Str) (x : D) (W1 : Wd) (Q : QD) : Prop := match x with
  | .ins C' fs => C' = C ∧ match fs.lookup f with
    | some d => Q d W1
    | none => False
  | .ref a => match W1 a with
    | some (.ins C' fs) => C' = C ∧ match fs.lookup f with
      | some d => Q d W1
      | none => False
    | _ => False
  | _ => False
@[simp] theorem tdFld_s (C : Addr) (f : Str) (to_ : TD) (ρ : DEnv) (W : Wd) (Q : QD) (E : XD) : tdFld C f to_ ρ W Q E = to_ ρ W (fun x W1 => fldD C f x W1 Q) E := rfl
def methD (C : Addr) (m : Str) (x : D) (W1 : Wd) (k : Prop) : Prop := match x with
  | .ins C' fs => C' = C ∧ fs.lookup m = none ∧ k
  | .ref a => match W1 a with
    | some (.ins C' fs) => C' = C ∧ fs.lookup m = none ∧ k
    | _ => False
  | _ => False
theorem tdMeth_s0 (C : Addr) (m : Str) (spd : SpD) (to_ : TD) (ta : TAd) (ρ : DEnv) (W : Wd) (Q : QD) (E : XD) : tdMeth C m spd to_ ta ρ W Q E = to_ ρ W (fun x W1 => methD C m x W1 (ta ρ W1 (fun ds W2 => spd (x :: ds) W2 Q E) E)) E := by
  unfold tdMeth
  congr 1
  funext x W1
  cases x with
  | ref a =>
    cases h : W1 a with
    | none => simp [methD, h]
    | some c => cases c <;> simp [methD, h]
  | _ => rfl
@[simp] theorem tdMeth_s (C : Addr) (m : Str) (spd : SpD) (to_ : TD) (ta : TAd) (ρ : DEnv) (W : Wd) (Q : QD) (E : XD) : tdMeth C m spd to_ ta ρ W Q E = to_ ρ W (fun x W1 => methD C m x W1 (ta ρ W1 (fun ds W2 => spd (x :: ds) W2 Q E) E)) E := tdMeth_s0 ..
section
variable (W : Wd)
@[simp] theorem viewW_int (i : Int) : viewW W (.int i) = .int i := rfl
@[simp] theorem viewW_str (i : Str) : viewW W (.str i) = .str i := rfl
@[simp] theorem viewW_bl (i : Bool) : viewW W (.bl i) = .bl i := rfl
@[simp] theorem viewW_non : viewW W .non = .non := rfl
@[simp] theorem viewW_tup (i : List D) : viewW W (.tup i) = .tup i := rfl
@[simp] theorem viewW_lst (i : List D) : viewW W (.lst i) = .lst i := rfl
/-- read as a list: a list that stays, or a cell -/
def isL (W : Wd) (d : D) (xs : List D) : Prop := d = .lst xs ∨ ∃ a, d = .ref a ∧ W a = some (.lst xs)
theorem isL.view {W : Wd} {d : D} {xs : List D} (h : isL W d xs) : viewW W d = .lst xs := by
  rcases h with rfl | ⟨a, rfl, h⟩
  · rfl
  · simp [viewW, h]
theorem isL.ix {W : Wd} {d : D} {xs : List D} (h : isL W d xs) (i : Int) (Q : QD) : dIx d (.int i) W Q = optQ (getI xs i) Q W := by
  rcases h with rfl | ⟨a, rfl, h⟩
  · simp
  · simp [h]
theorem isL.len {W : Wd} {d : D} {xs : List D} (h : isL W d xs) : lenD W d = some xs.length := by
  rcases h with rfl | ⟨a, rfl, h⟩
  · rfl
  · simp [lenD, h]
theorem isL.items {W : Wd} {d : D} {xs : List D} (h : isL W d xs) : itemsD W d = some xs := by
  rcases h with rfl | ⟨a, rfl, h⟩
  · rfl
  · simp [itemsD, h]
theorem isL.upd {W : Wd} {d : D} {xs : List D} (h : isL W d xs) {p : Addr} {c : Cell} (hp : W p = Option.none) : isL (updW W p c) d xs := by
  rcases h with rfl | ⟨a, rfl, h⟩
  · exact .inl rfl
  · refine .inr ⟨a, rfl, ?_⟩
    rw [updW_ne]; · exact h
    rintro rfl; rw [hp] at h; cases h
/-- what is walked of it -/
def GL (d : D) (xs : List D) : Wd → Prop := match d with
  | .ref a => fun W => W a = some (.lst xs)
  | _ => fun _ => True
theorem isL.gl {W : Wd} {d : D} {xs : List D} (h : isL W d xs) : GL d xs W := by
  rcases h with rfl | ⟨a, rfl, h⟩
  · trivial
  · exact h
theorem isL.seq {W : Wd} {d : D} {xs : List D} (h : isL W d xs) {ρ : DEnv} {i : Nat} (hi : getS ρ i = some d) {R : List D → (Wd → Prop) → Wd → Prop} {E : XD} (hr : R xs (GL d xs) W) : tiSeq (tdVar i) ρ W R E := by
  unfold tiSeq tdVar
  rw [hi]
  rcases h with rfl | ⟨a, rfl, h⟩
  · exact hr
  · simp only [h]
    exact hr
theorem viewW_ref {a : Addr} {xs : List D} (h : W a = some (.lst xs)) : viewW W (.ref a) = .lst xs := by simp [viewW, h]
@[simp] theorem scalD_ii (i j : Int) : scalD (.int i) (.int j) = true := rfl
@[simp] theorem scalD_ss (i j : Str) : scalD (.str i) (.str j) = true := rfl
@[simp] theorem scalD_bb (i j : Bool) : scalD (.bl i) (.bl j) = true := rfl
@[simp] theorem scalD_in (i : Int) : scalD (.int i) .non = true := rfl
@[simp] theorem scalD_ni (i : Int) : scalD .non (.int i) = true := rfl
@[simp] theorem scalD_tx (i : List D) (x : D) : scalD (.tup i) x = false := rfl
@[simp] theorem scalD_lx (i : List D) (x : D) : scalD (.lst i) x = false := rfl
@[simp] theorem scalD_xt (i : List D) (x : D) : scalD x (.tup i) = false := by cases x <;> rfl
@[simp] theorem scalD_xl (i : List D) (x : D) : scalD x (.lst i) = false := by cases x <;> rfl
@[simp] theorem scalD_ref (i : Addr) (x : D) : scalD (.ref i) x = false := rfl
@[simp] theorem scalD_nn : scalD .non .non = true := rfl
@[simp] theorem scalD_si (i : Str) (j : Int) : scalD (.str i) (.int j) = true := rfl
@[simp] theorem scalD_is (i : Str) (j : Int) : scalD (.int j) (.str i) = true := rfl
@[simp] theorem lenD_lst (i : List D) : lenD W (.lst i) = some i.length := rfl
@[simp] theorem lenD_tup (i : List D) : lenD W (.tup i) = some i.length := rfl
@[simp] theorem lenD_scr (i : List Int) : lenD W (.scr i) = some i.length := rfl
@[simp] theorem lenD_ref (a : Addr) : lenD W (.ref a) = (cellL (W a)).map List.length := by
  unfold lenD; simp only; cases h : W a with
  | none => rfl
  | some c => cases c <;> rfl
@[simp] theorem itemsD_lst (i : List D) : itemsD W (.lst i) = some i := rfl
@[simp] theorem itemsD_tup (i : List D) : itemsD W (.tup i) = some i := rfl
@[simp] theorem itemsD_ref (a : Addr) : itemsD W (.ref a) = cellL (W a) := by
  unfold itemsD; simp only; cases h : W a with
  | none => rfl
  | some c => cases c <;> rfl
@[simp] theorem tyD_int (i : Int) : tyD W (.int i) = some "int" := rfl
@[simp] theorem tyD_str (i : Str) : tyD W (.str i) = some "str" := rfl
@[simp] theorem tyD_bl (i : Bool) : tyD W (.bl i) = some "bool" := rfl
@[simp] theorem tyD_non : tyD W .non = some "NoneType" := rfl
@[simp] theorem tyD_tup (i : List D) : tyD W (.tup i) = some "tuple" := rfl
@[simp] theorem tyD_lst (i : List D) : tyD W (.lst i) = some "list" := rfl
@[simp] theorem tyD_ref {a : Addr} {xs : List D} (h : W a = some (.lst xs)) : tyD W (.ref a) = some "list" := by simp [tyD, h]
@[simp] theorem isNon_non : isNon .non = true := rfl
@[simp] theorem isNon_int (i : Int) : isNon (.int i) = false := rfl
@[simp] theorem isNon_tup (i : List D) : isNon (.tup i) = false := rfl
@[simp] theorem isNon_lst (i : List D) : isNon (.lst i) = false := rfl
@[simp] theorem isNon_str (i : Str) : isNon (.str i) = false := rfl
@[simp] theorem isNon_ref (i : Addr) : isNon (.ref i) = false := rfl
theorem ty_list_ref {a : Addr} {xs : List D} (h : W a = some (.lst xs)) : ty_list (.ref a) W = True := by simp [ty_list, h]
end
theorem memD_rng (i : Int) (n : Nat) : memD (.int i) ((List.range n).map fun k => D.int (k : Nat)) = decide (0 ≤ i ∧ i < n) := by
  have e : (List.range n).map (fun k => D.int (k : Nat)) = ((List.range n).map fun k => ((k : Nat) : Int)).map D.int := by rw [List.map_map]; rfl
  rw [e, memD_ints]
  congr 1
  simp only [List.mem_map, List.mem_range, eq_iff_iff]
  constructor
  · rintro ⟨a, h, rfl⟩; omega
  · rintro ⟨h0, h1⟩; exact ⟨i.toNat, by omega, by omega⟩
@[simp] theorem okL_rng (n m : Nat) : okL m ((List.range n).map fun k => D.int (k : Nat)) = true := okL_map _ fun a _ => okD_int m _
theorem cutD_to {α : Type} (xs : List α) (n : Nat) : cutD xs none (some (n : Int)) = xs.take n := by
  unfold cutD
  rw [HT.sIx_none, HT.sIx_nat, List.drop_zero, Nat.sub_zero]
  by_cases h : n ≤ xs.length
  · rw [Nat.min_eq_left h]
  · rw [Nat.min_eq_right (by omega), List.take_length, List.take_of_length_le (by omega)]
@[simp] theorem cutD_2 {α : Type} (xs : List α) : cutD xs none (some 2) = xs.take 2 := cutD_to xs 2
/-- what taken does -/
def RowOk (W : Wd) (r : Addr) : Prop := ∃ (ns : List Int) (p c : Int), 0 ≤ p ∧ W r = some (.lst [.scr ns, .int p, .int c])
def RowE (r : Addr) (W W' : Wd) : Prop := RowOk W' r ∧ ∀ a, a ≠ r → W' a = W a
theorem RowE.refl {r : Addr} {W : Wd} (h : RowOk W r) : RowE r W W := ⟨h, fun _ _ => rfl⟩
theorem RowE.trans {r : Addr} {W W' W'' : Wd} (h : RowE r W W') (h' : RowE r W' W'') : RowE r W W'' := ⟨h'.1, fun a z => (h'.2 a z).trans (h.2 a z)⟩
theorem RowE.none {r p : Addr} {W W' : Wd} (h : RowE r W W') (hr : RowOk W r) (hp : W' p = Option.none) : W p = Option.none := by
  by_cases e : p = r
  · subst e; obtain ⟨⟨_, _, _, _, q⟩, _⟩ := h; rw [q] at hp; cases hp
  · rw [← h.2 p e]; exact hp
theorem RowOk.ne {r p : Addr} {W : Wd} (h : RowOk W r) (hp : W p = Option.none) : p ≠ r := by
  rintro rfl; obtain ⟨_, _, _, _, q⟩ := h; rw [q] at hp; cases hp
theorem RowOk.upd {r p : Addr} {W : Wd} {c : Cell} (h : RowOk W r) (hp : p ≠ r) : RowOk (updW W p c) r := by
  obtain ⟨a, b, d, e, q⟩ := h; exact ⟨a, b, d, e, by rw [updW_ne (Ne.symm hp)]; exact q⟩
@[simp] theorem ite_int {p : Prop} [Decidable p] (a b : Int) : (if p then D.int a else D.int b) = D.int (if p then a else b) := by split <;> rfl
@[simp] theorem ite_str {p : Prop} [Decidable p] (a b : Str) : (if p then D.str a else D.str b) = D.str (if p then a else b) := by split <;> rfl
@[simp] theorem int_ne_s (z : Int) : (z = z + 1) = False := by simp; omega
theorem isL.upd_ne {W : Wd} {d : D} {xs : List D} (h : isL W d xs) {p : Addr} {c : Cell} (hp : ∀ ys, W p ≠ some (.lst ys)) : isL (updW W p c) d xs := by
  rcases h with rfl | ⟨a, rfl, h⟩
  · exact .inl rfl
  · refine .inr ⟨a, rfl, ?_⟩
    rw [updW_ne]; · exact h
    rintro rfl; exact hp _ h
@[simp] theorem cutD_from1 {α : Type} (x : α) (xs : List α) : cutD (x :: xs) (some 1) none = xs := by
  unfold cutD
  have e : HT.sIx (x :: xs).length 0 (some 1) = 1 := by
    have := HT.sIx_nat (x :: xs).length 0 1
    simp only [List.length_cons] at this ⊢
    rw [show ((1 : Nat) : Int) = 1 from rfl] at this
    rw [this]; omega
  rw [e, HT.sIx_none]
  simp
theorem enD_map {α : Type} (f : α → D) : ∀ (l : List α) (n : Nat), enD n (l.map f) = (l.zipIdx n).map fun p => D.tup [.int (p.2 : Nat), f p.1]
  | [], n => rfl
  | a :: l, n => by
    rw [List.map_cons, enD, enD_map f l (n + 1)]; rfl
theorem upd_some {W : Wd} {a b : Addr} {c c' : Cell} (h : W b = some c') (ha : W a = Option.none) : updW W a c b = some c' := by
  rw [updW_ne (ne_of_W h ha)]; exact h
theorem RowOk.upd2 {r p : Addr} {W : Wd} {c : Cell} (h : RowOk W r) (hp : W p = Option.none) : RowOk (updW W p c) r := h.upd (h.ne hp)
/-! loops -/
theorem forL_inv {α : Type} {tg : Tg} {tb : TSd} {Dd : EndsD} {G : Wd → Prop} (enc : α → D) (Inv : List α → DEnv → Wd → Prop) (h0 : ∀ ρ W, Inv [] ρ W → G W ∧ Dd.nx ρ W)
    (h1 : ∀ a as ρ W (Nx : DEnv → Wd → Prop), Inv (a :: as) ρ W → (∀ ρ' W', Inv as ρ' W' → Nx ρ' W') → G W ∧ asgT tg (enc a) ρ W fun ρ' W' => tb { Dd with nx := Nx, ct := Nx, bk := Dd.nx } ρ' W') : ∀ (as : List α) (ρ : DEnv) (W : Wd), Inv as ρ W → forL tg tb Dd G (as.map enc) ρ W
  | [], ρ, W, h => h0 ρ W h
  | a :: as, ρ, W, h => h1 a as ρ W _ h (fun ρ' W' h' => forL_inv enc Inv h0 h1 as ρ' W' h')
theorem lcL_inv {α : Type} {tg : Tg} {tt : TTd} {te : TD} {ρ : DEnv} {G : Wd → Prop} {k : List D → Wd → Prop} (enc : α → D) (Inv : List α → List D → Wd → Prop) (h0 : ∀ acc W, Inv [] acc W → G W ∧ k acc W)
    (h1 : ∀ a as acc W (Nx : List D → Wd → Prop), Inv (a :: as) acc W → (∀ acc' W', Inv as acc' W' → Nx acc' W') → G W ∧ asgT tg (enc a) ρ W fun ρ2 W2 => tt ρ2 W2 (fun b W3 => if b = true then te ρ2 W3 (fun y W4 => Nx (acc ++ [y]) W4) E0d else Nx acc W3) E0d) :
    ∀ (as : List α) (acc : List D) (W : Wd), Inv as acc W → lcL tg tt te ρ G (as.map enc) acc W k
  | [], acc, W, h => h0 acc W h
  | a :: as, acc, W, h => h1 a as acc W (fun acc' W' => lcL tg tt te ρ G (as.map enc) acc' W' k) h (fun acc' W' h' => lcL_inv enc Inv h0 h1 as acc' W' h')
/-- a comprehension that changes nothing -/
theorem lcL_pure {α : Type} {tg : Tg} {tt : TTd} {te : TD} {ρ : DEnv} {G : Wd → Prop} {k : List D → Wd → Prop} {W : Wd} (enc : α → D) (p : α → Bool) (g : α → D) (as : List α) (hG : G W)
    (h1 : ∀ a ∈ as, ∀ (Kt : D → Wd → Prop) (Kf : Wd → Prop), (if p a = true then Kt (g a) W else Kf W) → asgT tg (enc a) ρ W fun ρ2 W2 => tt ρ2 W2 (fun b W3 => if b = true then te ρ2 W3 (fun y W4 => Kt y W4) E0d else Kf W3) E0d)
    (acc : List D) (hk : k (acc ++ (as.filter p).map g) W) : lcL tg tt te ρ G (as.map enc) acc W k := by
  induction as generalizing acc with
  | nil => exact ⟨hG, by simpa using hk⟩
  | cons a as ih =>
    refine ⟨hG, h1 a List.mem_cons_self (fun y W4 => lcL tg tt te ρ G (as.map enc) (acc ++ [y]) W4 k) (fun W3 => lcL tg tt te ρ G (as.map enc) acc W3 k) ?_⟩
    have ih' := fun acc => ih (fun b hb => h1 b (List.mem_cons_of_mem _ hb)) acc
    cases hp : p a with
    | true =>
      rw [if_pos rfl]
      exact ih' _ (by simpa [hp] using hk)
    | false =>
      rw [if_neg Bool.false_ne_true]
      exact ih' _ (by simpa [hp] using hk)
@[simp] theorem filter_tt {α : Type} (l : List α) : l.filter (fun _ => true) = l := List.filter_eq_self.mpr fun _ _ => rfl
@[simp] theorem filter_ff {α : Type} (l : List α) : l.filter (fun _ => false) = [] := List.filter_eq_nil_iff.mpr fun _ _ => by simp
theorem whL_inv {tt : TTd} {tb : TSd} {Dd : EndsD} (Inv : Nat → DEnv → Wd → Prop)
    (step : ∀ n ρ W (Nx : DEnv → Wd → Prop), Inv n ρ W → (∀ m ρ' W', m < n → Inv m ρ' W' → Nx ρ' W') → tt ρ W (fun b W1 => if b = true then tb { Dd with nx := Nx, ct := Nx, bk := Dd.nx } ρ W1 else Dd.nx ρ W1) Dd.ex) :
    ∀ (N n : Nat) (ρ : DEnv) (W : Wd), n ≤ N → Inv n ρ W → whL tt tb Dd (N + 1) ρ W
  | 0, n, ρ, W, hn, h => step n ρ W _ h (fun m ρ' W' hm _ => by omega)
  | N + 1, n, ρ, W, hn, h => step n ρ W _ h (fun m ρ' W' hm h' => whL_inv Inv step N m ρ' W' (by omega) h')
@[simp] theorem rgD0 (n : Nat) : rgD 0 n = (List.range n).map fun i => D.int (i : Nat) := by
  unfold rgD; simp
end DL

/-! SM1: stores, states, steps; what bars a step. -/
namespace AI
open PySem PySem.Spec PyProof.Rows L2 DL

structure Shelf where
  room : Int
  has : Int
  sticks : Int
inductive Side where
  | left | right | any
  deriving DecidableEq
def Side.s : Side → Str
  | .left => "left" | .right => "right" | .any => "any"
def kindS (b : Bool) : Str := if b = true then "bring" else "fetch"
structure Wish where
  bring : Bool
  shelf : Int
  side : Side
  crew : Int
  keep : Int
  after : List Int
structure Store where
  shelves : List Shelf
  aisle : Int
  wishes : List Wish
structure State where
  aisle : Int
  done : List Int
  inside : List Int
  kept : Int
inductive Step where
  | wait | shift (i : Int) | ent (i : Int) | out (i : Int) | fin (i : Int)
abbrev eI (ns : List Int) : D := .tup (ns.map .int)
@[simp] def Shelf.d (x : Shelf) : D := .tup [.int x.room, .int x.has, .int x.sticks]
@[simp] def Wish.d (x : Wish) : D := .tup [.str (kindS x.bring), .int x.shelf, .str x.side.s, .int x.crew, .int x.keep, .tup (x.after.map .int)]
@[simp] def State.d (x : State) : D := .tup [.int x.aisle, .tup (x.done.map .int), .tup (x.inside.map .int), .int x.kept]
@[simp] def Step.d : Step → D
  | .wait => .tup [.str "wait"]
  | .shift i => .tup [.str "shift", .int i]
  | .ent i => .tup [.str "in", .int i]
  | .out i => .tup [.str "out", .int i]
  | .fin i => .tup [.str "do", .int i]
/-- the object -/
def Store.o (C : CC) (s : Store) : D := .ins C.st [("kept_shelves", .lst (s.shelves.map Shelf.d)), ("aisle", .int s.aisle), ("kept_wishes", .lst (s.wishes.map Wish.d))]
/-- the law's own -/
def Store.t (s : Store) : D := .tup [.lst (s.shelves.map Shelf.d), .int s.aisle, .lst (s.wishes.map Wish.d)]
section
variable (C : CC) (s : Store) (W : Wd) (Q : QD) (k : Prop)
theorem lk1 {α : Type} {x : Str} {v : α} {r : List (Str × α)} : ((x, v) :: r).lookup x = some v := by simp [List.lookup]
theorem lk2 {α : Type} {x y : Str} {v : α} {r : List (Str × α)} (h : (x == y) = false) : ((y, v) :: r).lookup x = r.lookup x := by simp [List.lookup, h]
@[simp] theorem fld_shelves : fldD C.st "kept_shelves" (Store.o C s) W Q = Q (.lst (s.shelves.map Shelf.d)) W := by
  unfold fldD Store.o; simp only [lk1, true_and]
@[simp] theorem fld_aisle : fldD C.st "aisle" (Store.o C s) W Q = Q (.int s.aisle) W := by
  unfold fldD Store.o; simp [lk1, lk2]
@[simp] theorem fld_wishes : fldD C.st "kept_wishes" (Store.o C s) W Q = Q (.lst (s.wishes.map Wish.d)) W := by
  unfold fldD Store.o; simp [lk1, lk2]
@[simp] theorem meth_goods : methD C.st "goods" (Store.o C s) W k = k := by unfold methD Store.o; simp [List.lookup]
@[simp] theorem meth_reaches : methD C.st "reaches" (Store.o C s) W k = k := by unfold methD Store.o; simp [List.lookup]
@[simp] theorem meth_shelves : methD C.st "shelves" (Store.o C s) W k = k := by unfold methD Store.o; simp [List.lookup]
@[simp] theorem meth_wishes : methD C.st "wishes" (Store.o C s) W k = k := by unfold methD Store.o; simp [List.lookup]
@[simp] theorem ixt0 : dIx (Store.t s) (.int 0) W Q = Q (.lst (s.shelves.map Shelf.d)) W := by unfold Store.t; simp
@[simp] theorem ixt1 : dIx (Store.t s) (.int 1) W Q = Q (.int s.aisle) W := by unfold Store.t; simp
@[simp] theorem ixt2 : dIx (Store.t s) (.int 2) W Q = Q (.lst (s.wishes.map Wish.d)) W := by unfold Store.t; simp
end
theorem int_map_inj {xs ys : List Int} (h : xs.map D.int = ys.map D.int) : xs = ys := by
  induction xs generalizing ys with
  | nil => cases ys <;> simp_all
  | cons a as ih => cases ys with
    | nil => simp at h
    | cons b bs => simp only [List.map_cons, List.cons.injEq, D.int.injEq] at h; rw [h.1, ih h.2]
@[simp] theorem ints_inj {xs ys : List Int} : xs.map D.int = ys.map D.int ↔ xs = ys := ⟨int_map_inj, congrArg _⟩
@[simp] theorem kindS_inj {a b : Bool} : kindS a = kindS b ↔ a = b := by cases a <;> cases b <;> simp [kindS]
@[simp] theorem side_inj {a b : Side} : a.s = b.s ↔ a = b := by cases a <;> cases b <;> simp [Side.s]
@[simp] theorem kindS_fetch {b : Bool} : kindS b = Str.ofString "fetch" ↔ b = false := by cases b <;> simp [kindS]
@[simp] theorem kindS_bring {b : Bool} : kindS b = Str.ofString "bring" ↔ b = true := by cases b <;> simp [kindS]
@[simp] theorem side_left {b : Side} : b.s = Str.ofString "left" ↔ b = .left := by cases b <;> simp [Side.s]
@[simp] theorem side_right {b : Side} : b.s = Str.ofString "right" ↔ b = .right := by cases b <;> simp [Side.s]
@[simp] theorem side_any {b : Side} : b.s = Str.ofString "any" ↔ b = .any := by cases b <;> simp [Side.s]
@[simp] theorem okD_kind (n : Nat) (b : Bool) : okD n (.str (kindS b)) = true := by cases b <;> exact okD_str n _
@[simp] theorem okD_side (n : Nat) (b : Side) : okD n (.str b.s) = true := by cases b <;> exact okD_str n _
theorem shelf_inj {a b : Shelf} : a.d = b.d ↔ a = b := by cases a; cases b; simp
theorem wish_inj {a b : Wish} : a.d = b.d ↔ a = b := by cases a; cases b; simp
theorem state_inj {a b : State} : a.d = b.d ↔ a = b := by cases a; cases b; simp
theorem map_inj {α β : Type} {f : α → β} (hf : ∀ a b, f a = f b → a = b) {xs ys : List α} (h : xs.map f = ys.map f) : xs = ys := by
  induction xs generalizing ys with
  | nil => cases ys <;> simp_all
  | cons a as ih => cases ys with
    | nil => simp at h
    | cons b bs => simp only [List.map_cons, List.cons.injEq] at h; rw [hf _ _ h.1, ih h.2]
@[simp] theorem shelves_inj {xs ys : List Shelf} : xs.map Shelf.d = ys.map Shelf.d ↔ xs = ys := ⟨map_inj fun _ _ => shelf_inj.mp, congrArg _⟩
@[simp] theorem wishes_inj {xs ys : List Wish} : xs.map Wish.d = ys.map Wish.d ↔ xs = ys := ⟨map_inj fun _ _ => wish_inj.mp, congrArg _⟩
@[simp] theorem store_o_inj {C : CC} {a b : Store} : a.o C = b.o C ↔ a = b := by
  cases a; cases b; simp [Store.o]
@[simp] theorem store_t_inj {a b : Store} : a.t = b.t ↔ a = b := by
  cases a; cases b; simp [Store.t]
theorem step_inj {a b : Step} : a.d = b.d ↔ a = b := by
  cases a <;> cases b <;> simp

/-! ### what is asked of a store, a state -/
def shelfAt (s : Store) (i : Int) : Shelf := (getI s.shelves i).getD ⟨0, 0, 0⟩
def wishAt (s : Store) (i : Int) : Wish := (getI s.wishes i).getD ⟨false, 0, .any, 0, 0, []⟩
def InW (s : Store) (i : Int) : Prop := 0 ≤ i ∧ i < s.wishes.length
def InS (s : Store) (i : Int) : Prop := 0 ≤ i ∧ i < s.shelves.length
theorem wishAt_get {s : Store} {i : Int} (h : InW s i) : getI s.wishes i = some (wishAt s i) := by
  obtain ⟨x, e, _⟩ := getI_some h.1 h.2
  unfold wishAt; rw [e]; rfl
theorem shelfAt_get {s : Store} {i : Int} (h : InS s i) : getI s.shelves i = some (shelfAt s i) := by
  obtain ⟨x, e, _⟩ := getI_some h.1 h.2
  unfold shelfAt; rw [e]; rfl
structure Shelf.Ok (x : Shelf) : Prop where
  h0 : 0 ≤ x.has
  h1 : x.has ≤ x.room
  h2 : x.room ≤ 9
  h3 : x.sticks = 0 ∨ x.sticks = 1
structure Wish.Ok (n m : Nat) (x : Wish) : Prop where
  s0 : 0 ≤ x.shelf
  s1 : x.shelf < n
  cr : x.crew = 0 ∨ x.crew = 1
  k0 : 0 ≤ x.keep
  k1 : x.keep ≤ 3
  so : x.after.Pairwise (· < ·)
  af : ∀ a ∈ x.after, 0 ≤ a ∧ a < m
structure Store.Ok (s : Store) : Prop where
  n1 : 1 ≤ s.shelves.length
  n5 : s.shelves.length ≤ 5
  sh : ∀ x ∈ s.shelves, x.Ok
  a0 : 0 ≤ s.aisle
  a1 : s.aisle ≤ s.shelves.length
  m5 : s.wishes.length ≤ 5
  wi : ∀ x ∈ s.wishes, x.Ok s.shelves.length s.wishes.length
theorem Store.Ok.wish {s : Store} (h : s.Ok) {i : Int} (hi : InW s i) : (wishAt s i).Ok s.shelves.length s.wishes.length := by
  obtain ⟨x, e, hx⟩ := getI_some hi.1 hi.2
  unfold wishAt; rw [e]; exact h.wi x hx
theorem Store.Ok.inS {s : Store} (h : s.Ok) {i : Int} (hi : InW s i) : InS s (wishAt s i).shelf := ⟨(h.wish hi).s0, (h.wish hi).s1⟩
/-- what a state must be: wishes there, in order, each once; crews in order -/
structure State.Ok (s : Store) (x : State) : Prop where
  dn : ∀ n ∈ x.done, InW s n
  so : x.done.Pairwise (· < ·)
  ins : x.inside = [] ∨ x.inside = [0] ∨ x.inside = [1] ∨ x.inside = [0, 1]
  k0 : 0 ≤ x.kept
  k3 : x.kept ≤ 3
structure Step.Ok (s : Store) (x : Step) : Prop where
  ok : match x with
    | .wait => True
    | .shift i => i = -1 ∨ i = 1
    | .ent i => i = 0 ∨ i = 1
    | .out i => i = 0 ∨ i = 1
    | .fin i => InW s i

/-! ### the functions -/
def goodsF (s : Store) (shelf : Int) (done : List Int) (m : Int) : Int := done.foldl (fun m n => if (wishAt s n).shelf = shelf then m + (if (wishAt s n).bring = true then 1 else -1) else m) m
def goods (s : Store) (shelf : Int) (done : List Int) : Int := goodsF s shelf done (shelfAt s shelf).has
def reaches (s : Store) (n aisle : Int) : Bool := (decide (aisle = (wishAt s n).shelf) && decide ((wishAt s n).side ≠ .right)) || (decide (aisle = (wishAt s n).shelf + 1) && decide ((wishAt s n).side ≠ .left))
def barD : Option (String × Int) → D
  | none => .non
  | some (w, n) => .tup [.str (Str.ofString w), .int n]
@[simp] theorem barD_none : barD none = .non := rfl
@[simp] theorem barD_some (w : String) (n : Int) : barD (some (w, n)) = .tup [.str (Str.ofString w), .int n] := rfl
def barShift (s : Store) (x : State) (by_ : Int) : Option (String × Int) :=
  if 0 ≤ (if 0 < by_ then x.aisle else x.aisle - 1) ∧ (if 0 < by_ then x.aisle else x.aisle - 1) < s.shelves.length then
    if (shelfAt s (if 0 < by_ then x.aisle else x.aisle - 1)).sticks = 1 then some ("sticks", if 0 < by_ then x.aisle else x.aisle - 1)
    else match x.inside with
      | c :: _ => some ("in", c)
      | [] => if 0 < x.kept then some ("kept", x.kept) else none
  else some ("end", x.aisle)
def barWish (s : Store) (x : State) (n : Int) : Option (String × Int) :=
  if n ∈ x.done then some ("done", n)
  else match (wishAt s n).after.find? (fun a => !decide (a ∈ x.done)) with
    | some a => some ("after", a)
    | none => if (wishAt s n).crew ∉ x.inside then some ("crew", (wishAt s n).crew)
      else if reaches s n x.aisle = false then some ("aisle", x.aisle)
      else if (wishAt s n).bring = false ∧ goods s (wishAt s n).shelf x.done < 1 then some ("empty", (wishAt s n).shelf)
      else if (wishAt s n).bring = true ∧ (shelfAt s (wishAt s n).shelf).room ≤ goods s (wishAt s n).shelf x.done then some ("full", (wishAt s n).shelf)
      else none
def bar (s : Store) (x : State) : Step → Option (String × Int)
  | .wait => none
  | .shift i => barShift s x i
  | .ent i => if i ∈ x.inside then some ("is", i) else none
  | .out i => if i ∈ x.inside then none else some ("isnt", i)
  | .fin i => barWish s x i
def every (s : Store) : List Step := [.wait, .shift (-1), .shift 1, .ent 0, .ent 1, .out 0, .out 1] ++ (List.range s.wishes.length).map fun (k : Nat) => .fin k
def stepsAt (s : Store) (x : State) : List Step := (every s).filter fun t => (bar s x t).isNone
def begin_ (s : Store) : State := ⟨s.aisle, [], [], 0⟩

/-! ### the program -/
def Ends (Qd : QD) (Ed : XD) : EndsD := { nx := fun _ W' => Qd .non W', rt := Qd, ex := Ed }
abbrev Q_ (sp : SpD) (td : TSd) (n : Nat) : Prop := ∀ ds W Qd Ed, sp ds W Qd Ed → td { nx := fun _ W' => Qd .non W', rt := Qd, ex := Ed } (startN n ds) W
def sp_begin (C : CC) : SpD := fun ds W Q _ => ∃ s : Store, ds = [s.o C] ∧ Q (begin_ s).d W
def td_begin (C : CC) : TSd :=
  (tsRet (tdTup (tdCons (tdFld C.st "aisle" (tdVar 0)) (tdCons (tdTup tdNil) (tdCons (tdTup tdNil) (tdCons (tdC (.int 0)) tdNil))))))
theorem q_begin (C : CC) : Q_ (sp_begin C) (td_begin C) 1 := by
  rintro ds W Qd Ed ⟨s, rfl, h⟩
  simpa [td_begin, begin_, sizeLine] using h
def sp_bar_of_shift (C : CC) : SpD := fun ds W Q _ => ∃ (s : Store) (x : State) (b : Int), ds = [s.o C, x.d, .int b] ∧ Q (barD (barShift s x b)) W
def td_bar_of_shift (C : CC) : TSd :=
  (tsSeq (tsAsg (tdVar 1) (.tup [3, 4, 5, 6]))
    (tsSeq (tsAsg (tdIf (tdB (tdOp dGt (tdVar 2) (tdC (.int 0)))) (tdVar 3) (tdOp dSub (tdVar 3) (tdC (.int 1)))) (.name 7))
    (tsSeq (tsIf (tdNotT (tdB (tdChain dLe dLt (tdC (.int 0)) (tdVar 7) (tdCB dLen (tdCons (tdFld C.st "kept_shelves" (tdVar 0)) tdNil))))) (tsRet (tdTup (tdCons (tdC (.str "end")) (tdCons (tdVar 3) tdNil)))) tsNext)
    (tsSeq (tsIf (tdB (tdOp dEq (tdOp dIx (tdOp dIx (tdFld C.st "kept_shelves" (tdVar 0)) (tdVar 7)) (tdC (.int 2))) (tdC (.int 1)))) (tsRet (tdTup (tdCons (tdC (.str "sticks")) (tdCons (tdVar 7) tdNil)))) tsNext)
    (tsSeq (tsIf (tdB (tdOp dNe (tdVar 5) (tdTup tdNil))) (tsRet (tdTup (tdCons (tdC (.str "in")) (tdCons (tdOp dIx (tdVar 5) (tdC (.int 0))) tdNil)))) tsNext)
    (tsSeq (tsIf (tdB (tdOp dGt (tdVar 6) (tdC (.int 0)))) (tsRet (tdTup (tdCons (tdC (.str "kept")) (tdCons (tdVar 6) tdNil)))) tsNext)
    (tsRet (tdC .non))))))))
theorem q_bar_of_shift (C : CC) : Q_ (sp_bar_of_shift C) (td_bar_of_shift C) 8 := by
  rintro ds W Qd Ed ⟨s, x, b, rfl, h⟩
  unfold barShift at h
  have key : ∀ z : Int, (0 ≤ z ∧ z < s.shelves.length) → getI s.shelves z = some (shelfAt s z) := fun z hz => shelfAt_get hz
  have tail : ∀ z, getI s.shelves z = some (shelfAt s z) → Qd (barD (if (shelfAt s z).sticks = 1 then some ("sticks", z) else match x.inside with
        | c :: _ => some ("in", c)
        | [] => if 0 < x.kept then some ("kept", x.kept) else none)) W →
        (if (shelfAt s z).sticks = 1 then Qd (D.tup [D.str (Str.ofString "sticks"), D.int z]) W else if x.inside = [] then if 0 < x.kept then Qd (D.tup [D.str (Str.ofString "kept"), D.int x.kept]) W else Qd D.non W
          else optQ (Option.map D.int (getI x.inside 0)) (fun y W1 => Qd (D.tup [D.str (Str.ofString "in"), y]) W1) W) := by
    intro z hz h
    split
    · rename_i h2; rw [if_pos h2] at h; exact h
    · rename_i h2; rw [if_neg h2] at h
      cases e : x.inside with
      | nil => simp [e] at h ⊢; split <;> simp_all
      | cons c cs => simp [e] at h ⊢; exact h
  by_cases hb : 0 < b
  · by_cases h0 : 0 ≤ x.aisle
    · by_cases h1 : x.aisle < s.shelves.length
      · have h1' : ¬ (s.shelves.length : Int) ≤ x.aisle := by omega
        simp [td_bar_of_shift, sizeLine, hb, h0, h1, h1', key x.aisle ⟨h0, h1⟩] at h ⊢
        exact tail _ (key x.aisle ⟨h0, h1⟩) h
      · have h1' : (s.shelves.length : Int) ≤ x.aisle := by omega
        simp [td_bar_of_shift, sizeLine, hb, h0, h1, h1'] at h ⊢
        exact h
    · simp [td_bar_of_shift, sizeLine, hb, h0] at h ⊢
      exact h
  · by_cases h0 : 1 ≤ x.aisle
    · by_cases h1 : x.aisle - 1 < s.shelves.length
      · have h1' : ¬ (s.shelves.length : Int) ≤ x.aisle - 1 := by omega
        simp [td_bar_of_shift, sizeLine, hb, h0, h1, h1', key (x.aisle - 1) ⟨by omega, h1⟩] at h ⊢
        exact tail _ (key (x.aisle - 1) ⟨by omega, h1⟩) h
      · have h1' : (s.shelves.length : Int) ≤ x.aisle - 1 := by omega
        simp [td_bar_of_shift, sizeLine, hb, h0, h1, h1'] at h ⊢
        exact h
    · simp [td_bar_of_shift, sizeLine, hb, h0] at h ⊢
      exact h
def sp_Store_goods (C : CC) : SpD := fun ds W Q _ => ∃ (s : Store) (sh : Int) (dn : List Int), ds = [s.o C, .int sh, .tup (dn.map .int)] ∧ InS s sh ∧ (∀ n ∈ dn, InW s n) ∧ Q (.int (goods s sh dn)) W
def td_Store_goods (C : CC) : TSd :=
  (tsSeq (tsAsg (tdOp dIx (tdOp dIx (tdFld C.st "kept_shelves" (tdVar 0)) (tdVar 1)) (tdC (.int 1))) (.name 3))
    (tsSeq (tsFor (tiSeq (tdVar 2)) (.name 4) (tsIf (tdB (tdOp dEq (tdOp dIx (tdOp dIx (tdFld C.st "kept_wishes" (tdVar 0)) (tdVar 4)) (tdC (.int 1))) (tdVar 1))) (tsAsg (tdOp dAdd (tdVar 3) (tdOp dIx (tdLst (tdCons (tdUn dNeg (tdC (.int 1))) (tdCons (tdC (.int 1)) tdNil))) (tdCB dInt (tdCons (tdOp dEq (tdOp dIx (tdOp dIx (tdFld C.st "kept_wishes" (tdVar 0)) (tdVar 4)) (tdC (.int 0))) (tdC (.str "bring"))) tdNil)))) (.name 3)) tsNext))
    (tsRet (tdVar 3))))
theorem q_Store_goods (C : CC) : Q_ (sp_Store_goods C) (td_Store_goods C) 5 := by
  rintro ds W Qd Ed ⟨s, sh, dn, rfl, hs, hn, h⟩
  simp [td_Store_goods, sizeLine, shelfAt_get hs]
  refine forL_inv (α := Int) D.int (fun as ρ W' => W' = W ∧ (∀ n ∈ as, InW s n) ∧ ∃ m one, ρ = [some (s.o C), some (.int sh), some (.tup (dn.map .int)), some (.int m), one] ∧ Qd (.int (goodsF s sh as m)) W) ?_ ?_ dn _ W ⟨rfl, hn, _, _, rfl, h⟩
  · rintro ρ W' ⟨rfl, _, m, one, rfl, h⟩
    simpa [goodsF] using h
  · rintro a as ρ W' Nx ⟨rfl, hn, m, one, rfl, h⟩ hN
    have ha := hn a List.mem_cons_self
    have hn' : ∀ n ∈ as, InW s n := fun n z => hn n (List.mem_cons_of_mem _ z)
    refine ⟨trivial, ?_⟩
    simp [wishAt_get ha]
    by_cases e : (wishAt s a).shelf = sh
    · simp [e, sizeLine]
      refine hN _ _ ⟨rfl, hn', _, _, rfl, ?_⟩
      cases eb : (wishAt s a).bring <;> simpa [goodsF, e, eb] using h
    · simp [e]
      exact hN _ _ ⟨rfl, hn', _, _, rfl, by simpa [goodsF, e] using h⟩
def sp_Store_reaches (C : CC) : SpD := fun ds W Q _ => ∃ (s : Store) (n a : Int), ds = [s.o C, .int n, .int a] ∧ InW s n ∧ Q (.bl (reaches s n a)) W
def td_Store_reaches (C : CC) : TSd :=
  (tsSeq (tsAsg (tdOp dIx (tdOp dIx (tdFld C.st "kept_wishes" (tdVar 0)) (tdVar 1)) (tdC (.int 1))) (.name 3))
    (tsSeq (tsAsg (tdOp dIx (tdOp dIx (tdFld C.st "kept_wishes" (tdVar 0)) (tdVar 1)) (tdC (.int 2))) (.name 4))
    (tsRet (tdOrV (tdAndV (tdOp dEq (tdVar 2) (tdVar 3)) (tdOp dNe (tdVar 4) (tdC (.str "right")))) (tdAndV (tdOp dEq (tdVar 2) (tdOp dAdd (tdVar 3) (tdC (.int 1)))) (tdOp dNe (tdVar 4) (tdC (.str "left"))))))))
theorem q_Store_reaches (C : CC) : Q_ (sp_Store_reaches C) (td_Store_reaches C) 5 := by
  rintro ds W Qd Ed ⟨s, n, a, rfl, hn, h⟩
  simp [td_Store_reaches, wishAt_get hn]
  unfold reaches at h
  by_cases e1 : a = (wishAt s n).shelf
  · subst e1
    cases e2 : (wishAt s n).side <;> simp [e2] at h ⊢ <;> exact h
  · simp [e1] at h ⊢
    by_cases e3 : a = (wishAt s n).shelf + 1
    · subst e3
      cases e2 : (wishAt s n).side <;> simp [e2] at h ⊢ <;> exact h
    · simp [e3] at h ⊢; exact h
@[simp] theorem sp_goods_s {C : CC} {s : Store} {sh : Int} {dn : List Int} {W : Wd} {Q : QD} {E : XD} : sp_Store_goods C [s.o C, .int sh, .tup (dn.map .int)] W Q E = (InS s sh ∧ (∀ n ∈ dn, InW s n) ∧ Q (.int (goods s sh dn)) W) := by
  simp [sp_Store_goods, and_assoc]
@[simp] theorem sp_reaches_s {C : CC} {s : Store} {n a : Int} {W : Wd} {Q : QD} {E : XD} : sp_Store_reaches C [s.o C, .int n, .int a] W Q E = (InW s n ∧ Q (.bl (reaches s n a)) W) := by
  simp [sp_Store_reaches, and_assoc]
def sp_bar_of_wish (C : CC) : SpD := fun ds W Q _ => ∃ (s : Store) (x : State) (n : Int), ds = [s.o C, x.d, .int n] ∧ s.Ok ∧ x.Ok s ∧ InW s n ∧ Q (barD (barWish s x n)) W
def td_bar_of_wish (C : CC) : TSd :=
  (tsSeq (tsAsg (tdVar 1) (.tup [3, 4, 5, 6]))
    (tsSeq (tsAsg (tdOp dIx (tdFld C.st "kept_wishes" (tdVar 0)) (tdVar 2)) (.tup [7, 8, 9, 10, 11, 12]))
    (tsSeq (tsIf (tdB (tdOp (dIn false) (tdVar 2) (tdVar 4))) (tsRet (tdTup (tdCons (tdC (.str "done")) (tdCons (tdVar 2) tdNil)))) tsNext)
    (tsSeq (tsFor (tiSeq (tdVar 12)) (.name 13) (tsIf (tdB (tdOp (dIn true) (tdVar 13) (tdVar 4))) (tsRet (tdTup (tdCons (tdC (.str "after")) (tdCons (tdVar 13) tdNil)))) tsNext))
    (tsSeq (tsIf (tdB (tdOp (dIn true) (tdVar 10) (tdVar 5))) (tsRet (tdTup (tdCons (tdC (.str "crew")) (tdCons (tdVar 10) tdNil)))) tsNext)
    (tsSeq (tsIf (tdNotT (tdB (tdMeth C.st "reaches" (sp_Store_reaches C) (tdVar 0) (tdCons (tdVar 2) (tdCons (tdVar 3) tdNil))))) (tsRet (tdTup (tdCons (tdC (.str "aisle")) (tdCons (tdVar 3) tdNil)))) tsNext)
    (tsSeq (tsAsg (tdMeth C.st "goods" (sp_Store_goods C) (tdVar 0) (tdCons (tdVar 8) (tdCons (tdVar 4) tdNil))) (.name 14))
    (tsSeq (tsIf (tdAnd (tdB (tdOp dEq (tdVar 7) (tdC (.str "fetch")))) (tdB (tdOp dLt (tdVar 14) (tdC (.int 1))))) (tsRet (tdTup (tdCons (tdC (.str "empty")) (tdCons (tdVar 8) tdNil)))) tsNext)
    (tsSeq (tsIf (tdAnd (tdB (tdOp dEq (tdVar 7) (tdC (.str "bring")))) (tdB (tdOp dGe (tdVar 14) (tdOp dIx (tdOp dIx (tdFld C.st "kept_shelves" (tdVar 0)) (tdVar 8)) (tdC (.int 0)))))) (tsRet (tdTup (tdCons (tdC (.str "full")) (tdCons (tdVar 8) tdNil)))) tsNext)
    (tsRet (tdC .non)))))))))))
theorem q_bar_of_wish (C : CC) : Q_ (sp_bar_of_wish C) (td_bar_of_wish C) 15 := by
  rintro ds W Qd Ed ⟨s, x, n, rfl, hs, hx, hn, h⟩
  unfold barWish at h
  simp [td_bar_of_wish, wishAt_get hn, sizeLine]
  by_cases e1 : n ∈ x.done
  · simp [e1] at h ⊢; exact h
  · simp [e1] at h ⊢
    refine forL_inv (α := Int) D.int (fun as ρ W' => W' = W ∧ (wishAt s n).after.find? (fun a => !decide (a ∈ x.done)) = as.find? (fun a => !decide (a ∈ x.done)) ∧
      ∃ one gd, ρ = [some (s.o C), some x.d, some (.int n), some (.int x.aisle), some (.tup (x.done.map .int)), some (.tup (x.inside.map .int)), some (.int x.kept), some (.str (kindS (wishAt s n).bring)), some (.int (wishAt s n).shelf), some (.str (wishAt s n).side.s),
        some (.int (wishAt s n).crew), some (.int (wishAt s n).keep), some (.tup ((wishAt s n).after.map .int)), one, gd]) ?_ ?_ _ _ W ⟨rfl, rfl, _, _, rfl⟩
    · rintro ρ W' ⟨rfl, e2, one, gd, rfl⟩
      refine ⟨trivial, ?_⟩
      rw [List.find?_nil] at e2
      rw [e2] at h
      have hsh := hs.inS hn
      simp [sizeLine, hn, hsh, shelfAt_get hsh] at h ⊢
      split
      · rename_i e3
        simp [e3] at h
        cases e4 : reaches s n x.aisle with
        | false => simp [e4] at h ⊢; exact h
        | true =>
          simp [e4] at h ⊢
          refine ⟨hx.dn, ?_⟩
          cases e5 : (wishAt s n).bring with
          | false => simp [e5] at h ⊢; split <;> simp_all
          | true => simp [e5] at h ⊢; split <;> simp_all
      · rename_i e3
        simp [e3] at h
        exact h
    · rintro a as ρ W' Nx ⟨rfl, e2, one, gd, rfl⟩ hN
      refine ⟨trivial, ?_⟩
      simp [sizeLine] at e2 ⊢
      by_cases e3 : a ∈ x.done
      · simp [e3] at e2 ⊢
        exact hN _ _ ⟨rfl, e2, _, _, rfl⟩
      · simp [e3] at e2 ⊢
        rw [e2] at h
        exact h
@[simp] theorem sp_bar_of_shift_s {C : CC} {s : Store} {a k b : Int} {dn ins : List Int} {W : Wd} {Q : QD} {E : XD} : sp_bar_of_shift C [s.o C, .tup [.int a, .tup (dn.map .int), .tup (ins.map .int), .int k], .int b] W Q E = Q (barD (barShift s ⟨a, dn, ins, k⟩ b)) W := by
  simp only [sp_bar_of_shift, eq_iff_iff]
  constructor
  · rintro ⟨s', ⟨a', d', i', k'⟩, b', e, q⟩
    simp at e
    obtain ⟨rfl, ⟨rfl, rfl, rfl, rfl⟩, rfl⟩ := e
    exact q
  · intro q; exact ⟨s, ⟨a, dn, ins, k⟩, b, rfl, q⟩
@[simp] theorem sp_bar_of_wish_s {C : CC} {s : Store} {a k b : Int} {dn ins : List Int} {W : Wd} {Q : QD} {E : XD} : sp_bar_of_wish C [s.o C, .tup [.int a, .tup (dn.map .int), .tup (ins.map .int), .int k], .int b] W Q E = (s.Ok ∧ State.Ok s ⟨a, dn, ins, k⟩ ∧ InW s b ∧ Q (barD (barWish s ⟨a, dn, ins, k⟩ b)) W) := by
  simp only [sp_bar_of_wish, eq_iff_iff]
  constructor
  · rintro ⟨s', ⟨a', d', i', k'⟩, b', e, q⟩
    simp at e
    obtain ⟨rfl, ⟨rfl, rfl, rfl, rfl⟩, rfl⟩ := e
    exact q
  · intro q; exact ⟨s, ⟨a, dn, ins, k⟩, b, rfl, q⟩
def sp_bar_of (C : CC) : SpD := fun ds W Q _ => ∃ (s : Store) (x : State) (t : Step), ds = [s.o C, x.d, t.d] ∧ s.Ok ∧ x.Ok s ∧ t.Ok s ∧ Q (barD (bar s x t)) W
def td_bar_of (C : CC) : TSd :=
  (tsSeq (tsIf (tdB (tdOp dEq (tdVar 2) (tdC (.tup [(.str "wait")])))) (tsRet (tdC .non)) tsNext)
    (tsSeq (tsIf (tdB (tdOp dEq (tdOp dIx (tdVar 2) (tdC (.int 0))) (tdC (.str "shift")))) (tsRet (tdCall (sp_bar_of_shift C) (tdCons (tdVar 0) (tdCons (tdVar 1) (tdCons (tdOp dIx (tdVar 2) (tdC (.int 1))) tdNil))))) tsNext)
    (tsSeq (tsIf (tdB (tdOp dEq (tdOp dIx (tdVar 2) (tdC (.int 0))) (tdC (.str "do")))) (tsRet (tdCall (sp_bar_of_wish C) (tdCons (tdVar 0) (tdCons (tdVar 1) (tdCons (tdOp dIx (tdVar 2) (tdC (.int 1))) tdNil))))) tsNext)
    (tsSeq (tsIf (tdB (tdOp dEq (tdOp dEq (tdOp dIx (tdVar 2) (tdC (.int 0))) (tdC (.str "in"))) (tdOp (dIn false) (tdOp dIx (tdVar 2) (tdC (.int 1))) (tdOp dIx (tdVar 1) (tdC (.int 2)))))) (tsRet (tdTup (tdCons (tdOp dIx (tdLst (tdCons (tdC (.str "isnt")) (tdCons (tdC (.str "is")) tdNil))) (tdCB dInt (tdCons (tdOp dEq (tdOp dIx (tdVar 2) (tdC (.int 0))) (tdC (.str "in"))) tdNil))) (tdCons (tdOp dIx (tdVar 2) (tdC (.int 1))) tdNil)))) tsNext)
    (tsRet (tdC .non))))))
theorem q_bar_of (C : CC) : Q_ (sp_bar_of C) (td_bar_of C) 3 := by
  rintro ds W Qd Ed ⟨s, x, t, rfl, hs, hx, ht, h⟩
  have ht := ht.ok
  cases t with
  | wait => simpa [td_bar_of, bar] using h
  | shift i => simpa [td_bar_of, bar, sizeLine] using h
  | fin i => simp [td_bar_of, sizeLine] at ht ⊢; exact ⟨hs, hx, ht, h⟩
  | ent i =>
    simp [td_bar_of, sizeLine, bar] at h ⊢
    by_cases e : i ∈ x.inside <;> simp [e] at h ⊢ <;> exact h
  | out i =>
    simp [td_bar_of, sizeLine, bar] at h ⊢
    by_cases e : i ∈ x.inside <;> simp [e] at h ⊢ <;> exact h
theorem sp_bar_of_s {C : CC} {s : Store} {a k : Int} {dn ins : List Int} {t : Step} {W : Wd} {Q : QD} {E : XD} : sp_bar_of C [s.o C, .tup [.int a, .tup (dn.map .int), .tup (ins.map .int), .int k], t.d] W Q E = (s.Ok ∧ State.Ok s ⟨a, dn, ins, k⟩ ∧ t.Ok s ∧ Q (barD (bar s ⟨a, dn, ins, k⟩ t)) W) := by
  simp only [sp_bar_of, eq_iff_iff]
  constructor
  · rintro ⟨s', ⟨a', d', i', k'⟩, b', e, q⟩
    simp [-Step.d] at e
    obtain ⟨rfl, ⟨rfl, rfl, rfl, rfl⟩, e⟩ := e
    rw [step_inj] at e; subst e
    exact q
  · intro q; exact ⟨s, ⟨a, dn, ins, k⟩, t, rfl, q⟩
def sp_need_step (C : CC) : SpD := fun ds W Q _ => ∃ (s : Store) (t : Step), ds = [s.o C, t.d] ∧ t.Ok s ∧ s.wishes.length ≤ 1000 ∧ Q .non W
def td_need_step (C : CC) : TSd :=
  (tsSeq (tsIf (tdB (tdOp dEq (tdVar 1) (tdC (.tup [(.str "wait")])))) tsRetN tsNext)
    (tsSeq (tsIf (tdOr (tdB (tdOp dNe (tdCB dLen (tdCons (tdVar 1) tdNil)) (tdC (.int 2)))) (tdB (tdOp (dIn true) (tdOp dIx (tdVar 1) (tdC (.int 0))) (tdTup (tdCons (tdC (.str "shift")) (tdCons (tdC (.str "in")) (tdCons (tdC (.str "out")) (tdCons (tdC (.str "do")) tdNil)))))))) tsNever tsNext)
    (tsSeq (tsAsg (tdDisp ["shift", "in", "out", "do"] (tdCons (tdTup (tdCons (tdUn dNeg (tdC (.int 1))) (tdCons (tdC (.int 1)) tdNil))) (tdCons (tdTup (tdCons (tdC (.int 0)) (tdCons (tdC (.int 1)) tdNil))) (tdCons (tdTup (tdCons (tdC (.int 0)) (tdCons (tdC (.int 1)) tdNil))) (tdCons (tdListRg (tdCB dLen (tdCons (tdFld C.st "kept_wishes" (tdVar 0)) tdNil))) tdNil))))) (.name 2))
    (tsIf (tdB (tdOp (dIn true) (tdOp dIx (tdVar 1) (tdC (.int 1))) (tdOp dIx (tdVar 2) (tdOp dIx (tdVar 1) (tdC (.int 0)))))) tsNever tsNext))))
theorem q_need_step (C : CC) : Q_ (sp_need_step C) (td_need_step C) 3 := by
  rintro ds W Qd Ed ⟨s, t, rfl, ht, hl, h⟩
  have ht := ht.ok
  cases t with
  | wait => simpa [td_need_step] using h
  | shift i => simp [td_need_step, sizeLine, List.lookup] at ht ⊢; exact ⟨by omega, by omega, h⟩
  | fin i => simp [td_need_step, sizeLine, List.lookup, memD_rng] at ht ⊢; exact ⟨by omega, ht, h⟩
  | ent i => simp [td_need_step, sizeLine, List.lookup] at ht ⊢; exact ⟨by omega, by omega, h⟩
  | out i => simp [td_need_step, sizeLine, List.lookup] at ht ⊢; exact ⟨by omega, by omega, h⟩
theorem sp_need_step_s {C : CC} {s : Store} {t : Step} {W : Wd} {Q : QD} {E : XD} (h1 : t.Ok s) (h2 : s.wishes.length ≤ 1000) (h3 : Q .non W) : sp_need_step C [s.o C, t.d] W Q E := ⟨s, t, rfl, h1, h2, h3⟩
def sp_barred (C : CC) : SpD := fun ds W Q _ => ∃ (s : Store) (x : State) (t : Step), ds = [s.o C, x.d, t.d] ∧ s.Ok ∧ x.Ok s ∧ t.Ok s ∧ Q (barD (bar s x t)) W
def td_barred (C : CC) : TSd :=
  (tsSeq (tsDrop (tdCall (sp_need_step C) (tdCons (tdVar 0) (tdCons (tdVar 2) tdNil))))
    (tsRet (tdCall (sp_bar_of C) (tdCons (tdVar 0) (tdCons (tdVar 1) (tdCons (tdVar 2) tdNil))))))
theorem q_barred (C : CC) : Q_ (sp_barred C) (td_barred C) 3 := by
  rintro ds W Qd Ed ⟨s, x, t, rfl, hs, hx, ht, h⟩
  simp [td_barred, -Step.d]
  refine sp_need_step_s ht (by have := hs.m5; omega) ?_
  rw [sp_bar_of_s]
  exact ⟨hs, hx, ht, h⟩
theorem every_ok {s : Store} (hs : s.Ok) : ∀ t ∈ every s, Step.Ok s t := by
  intro t ht
  simp only [every, List.mem_append, List.mem_cons, List.not_mem_nil, or_false, List.mem_map, List.mem_range] at ht
  rcases ht with (rfl | rfl | rfl | rfl | rfl | rfl | rfl) | ⟨k, hk, rfl⟩
  · exact ⟨trivial⟩
  · exact ⟨.inl rfl⟩
  · exact ⟨.inr rfl⟩
  · exact ⟨.inl rfl⟩
  · exact ⟨.inr rfl⟩
  · exact ⟨.inl rfl⟩
  · exact ⟨.inr rfl⟩
  · exact ⟨⟨by omega, by omega⟩⟩
theorem every_d (s : Store) : [D.tup [.str "wait"], .tup [.str "shift", .int (-1)], .tup [.str "shift", .int 1], .tup [.str "in", .int 0], .tup [.str "in", .int 1], .tup [.str "out", .int 0], .tup [.str "out", .int 1]] ++ (List.map (fun (i : Nat) => D.tup [.str "do", .int i]) (List.range s.wishes.length)) = (every s).map Step.d := by
  simp [every]
theorem every_len (s : Store) : (every s).length = 7 + s.wishes.length := by simp [every]; omega
theorem barD_isNon (o : Option (String × Int)) : isNon (barD o) = o.isNone := by
  cases o with
  | none => rfl
  | some p => obtain ⟨a, b⟩ := p; rfl
def sp_steps_at (C : CC) : SpD := fun ds W Q _ => ∃ (s : Store) (x : State), ds = [s.o C, x.d] ∧ s.Ok ∧ x.Ok s ∧ ∀ p, W p = none → Q (.ref p) (updW W p (.lst ((stepsAt s x).map Step.d)))
def td_steps_at (C : CC) : TSd :=
  (tsSeq (tsAsg (tdLst (tdCons (tdC (.tup [(.str "wait")])) (tdCons (tdTup (tdCons (tdC (.str "shift")) (tdCons (tdUn dNeg (tdC (.int 1))) tdNil))) (tdCons (tdTup (tdCons (tdC (.str "shift")) (tdCons (tdC (.int 1)) tdNil))) (tdCons (tdTup (tdCons (tdC (.str "in")) (tdCons (tdC (.int 0)) tdNil))) (tdCons (tdTup (tdCons (tdC (.str "in")) (tdCons (tdC (.int 1)) tdNil))) (tdCons (tdTup (tdCons (tdC (.str "out")) (tdCons (tdC (.int 0)) tdNil))) (tdCons (tdTup (tdCons (tdC (.str "out")) (tdCons (tdC (.int 1)) tdNil))) tdNil)))))))) (.name 2))
    (tsSeq (tsAsg (tdOp dAdd (tdVar 2) (tdLc (tiRange1 (tdCB dLen (tdCons (tdFld C.st "kept_wishes" (tdVar 0)) tdNil))) (.name 3) tdYes (tdTup (tdCons (tdC (.str "do")) (tdCons (tdVar 3) tdNil))) [3])) (.name 2))
    (tsRet (tdLcM (tiSeq (tdVar 2)) (.name 4) (tdB (tdOp (dIs false) (tdCall (sp_bar_of C) (tdCons (tdVar 0) (tdCons (tdVar 1) (tdCons (tdVar 4) tdNil)))) (tdC .non))) (tdVar 4) [4]))))
theorem q_steps_at (C : CC) : Q_ (sp_steps_at C) (td_steps_at C) 5 := by
  rintro ds W Qd Ed ⟨s, x, rfl, hs, hx, h⟩
  have h5 := hs.m5
  simp [td_steps_at, sizeLine]
  refine ⟨by omega, by omega, ?_⟩
  refine lcL_pure (α := Nat) (fun i => .int (i : Nat)) (fun _ => true) (fun i => Step.d (.fin i)) _ trivial ?_ [] ?_
  · intro a _ Kt Kf hk
    simpa [sizeLine] using hk
  simp
  refine ⟨by omega, by omega, ?_⟩
  have e2 := every_d s
  simp only [List.cons_append, List.nil_append] at e2
  rw [e2]
  refine lcL_pure (α := Step) Step.d (fun t => (bar s x t).isNone) Step.d _ trivial ?_ [] ?_
  · intro t ht Kt Kf hk
    simp [-Step.d]
    rw [sp_bar_of_s]
    refine ⟨hs, hx, every_ok hs t ht, ?_⟩
    simp only [barD_isNon]
    exact hk
  · simpa [stepsAt] using h
@[simp] theorem okD_barD (n : Nat) (o : Option (String × Int)) : okD (n + 1) (barD o) = true := by
  cases o with
  | none => simp
  | some p => obtain ⟨a, b⟩ := p; simp
@[simp] theorem okD_barD64 (o : Option (String × Int)) : okD 64 (barD o) = true := okD_barD 63 o
@[simp] theorem viewW_barD (W : Wd) (o : Option (String × Int)) : viewW W (barD o) = barD o := by
  cases o with
  | none => rfl
  | some p => obtain ⟨a, b⟩ := p; rfl
@[simp] theorem eqD_barD (o : Option (String × Int)) : eqD (barD o) (barD o) = true := eqD_refl 64 _ (okD_barD64 o)
@[simp] theorem okL_shelves (n : Nat) (xs : List Shelf) : okL (n + 1) (xs.map Shelf.d) = true := okL_map _ fun a _ => by simp
@[simp] theorem okL_wishes (n : Nat) (xs : List Wish) : okL (n + 2) (xs.map Wish.d) = true := okL_map _ fun a _ => by simp
theorem Step.ok (n : Nat) (t : Step) : okD (n + 1) t.d = true := by cases t <;> simp
@[simp] theorem okL_steps (n : Nat) (xs : List Step) : okL (n + 1) (xs.map Step.d) = true := okL_map _ fun a _ => Step.ok n a
@[simp] theorem eqDL_shelves (xs : List Shelf) : eqDL (xs.map Shelf.d) (xs.map Shelf.d) = true := eqDL_refl 63 _ (okL_shelves 62 xs)
@[simp] theorem eqDL_wishes (xs : List Wish) : eqDL (xs.map Wish.d) (xs.map Wish.d) = true := eqDL_refl 63 _ (okL_wishes 61 xs)
@[simp] theorem eqDL_steps (xs : List Step) : eqDL (xs.map Step.d) (xs.map Step.d) = true := eqDL_refl 63 _ (okL_steps 62 xs)
@[simp] theorem eqDL_steps_nil (xs : List Step) : eqDL (xs.map Step.d) [] = decide (xs = []) := by cases xs <;> simp [-Step.d]
def shelfB (x : Shelf) : Bool := decide (0 ≤ x.has) && (decide (x.has ≤ x.room) && decide (x.room ≤ 9)) && (decide (x.sticks = 0) || decide (x.sticks = 1))
theorem shelfB_ok {x : Shelf} (h : x.Ok) : shelfB x = true := by
  obtain ⟨a, b, c, d⟩ := h
  simp [shelfB, a, b, c, d]
def sp_is_shelf (C : CC) : SpD := fun ds W Q _ => ∃ (x : Shelf), ds = [x.d] ∧ Q (.bl (shelfB x)) W
def td_is_shelf (C : CC) : TSd :=
  (tsSeq (tsAsg (tdVar 0) (.tup [1, 2, 3]))
    (tsRet (tdAndV (tdChain3 dLe dLe dLe (tdC (.int 0)) (tdVar 2) (tdVar 1) (tdC (.int 9))) (tdOp (dIn false) (tdVar 3) (tdTup (tdCons (tdC (.int 0)) (tdCons (tdC (.int 1)) tdNil)))))))
theorem q_is_shelf (C : CC) : Q_ (sp_is_shelf C) (td_is_shelf C) 4 := by
  rintro ds W Qd Ed ⟨x, rfl, h⟩
  simp [td_is_shelf, sizeLine]
  unfold shelfB at h
  by_cases e1 : 0 ≤ x.has <;> simp [e1] at h ⊢
  · by_cases e2 : x.has ≤ x.room <;> simp [e2] at h ⊢
    · by_cases e3 : x.room ≤ 9 <;> simp [e3] at h ⊢
      · exact h
      · exact h
    · exact h
  · exact h
def sp_must (C : CC) : SpD := fun ds W Q _ => ∃ x y, ds = [.bl true, x, y] ∧ Q .non W
def td_must (C : CC) : TSd :=
  (tsIf (tdNotT (tdB (tdVar 0))) tsNever tsNext)
theorem q_must (C : CC) : Q_ (sp_must C) (td_must C) 3 := by
  rintro ds W Qd Ed ⟨x, y, rfl, h⟩
  simpa [td_must] using h
def sp_is_wish (C : CC) : SpD := fun ds W Q _ => ∃ (x : Wish) (n m : Nat), ds = [x.d, .int m, .int n] ∧ x.Ok n m ∧ m ≤ 60 ∧ Q (.bl true) W
theorem sorted_len : ∀ {l : List Int} {n : Nat} (k : Int), l.Pairwise (· < ·) → (∀ a ∈ l, k ≤ a ∧ a < k + n) → l.length ≤ n
  | [], n, k, _, _ => by simp
  | a :: l, 0, k, _, h => by have := h a List.mem_cons_self; omega
  | a :: l, n + 1, k, hp, h => by
    have h1 := List.pairwise_cons.mp hp
    have := sorted_len (l := l) (n := n) (k + 1) h1.2 fun b hb => by
      have h2 := h1.1 b hb
      have h3 := h b (List.mem_cons_of_mem _ hb)
      have h4 := h a List.mem_cons_self
      omega
    simp only [List.length_cons]; omega
theorem sorted_ext : ∀ {l m : List Int}, l.Pairwise (· < ·) → m.Pairwise (· < ·) → (∀ k, k ∈ l ↔ k ∈ m) → l = m
  | [], [], _, _, _ => rfl
  | [], b :: m, _, _, h => by have := (h b).mpr List.mem_cons_self; simp at this
  | a :: l, [], _, _, h => by have := (h a).mp List.mem_cons_self; simp at this
  | a :: l, b :: m, hl, hm, h => by
    have hl' := List.pairwise_cons.mp hl
    have hm' := List.pairwise_cons.mp hm
    have e : a = b := by
      have h1 := (h a).mp List.mem_cons_self
      have h2 := (h b).mpr List.mem_cons_self
      rcases List.mem_cons.mp h1 with z | z
      · exact z
      · rcases List.mem_cons.mp h2 with y | y
        · exact y.symm
        · have := hm'.1 a z; have := hl'.1 b y; omega
    subst e
    rw [sorted_ext hl'.2 hm'.2 fun k => ?_]
    constructor
    · intro hk
      rcases List.mem_cons.mp ((h k).mp (List.mem_cons_of_mem _ hk)) with z | z
      · subst z; have := hl'.1 k hk; omega
      · exact z
    · intro hk
      rcases List.mem_cons.mp ((h k).mpr (List.mem_cons_of_mem _ hk)) with z | z
      · subst z; have := hm'.1 k hk; omega
      · exact z
def td_is_wish (C : CC) : TSd :=
  (tsSeq (tsAsg (tdVar 0) (.tup [3, 4, 5, 6, 7, 8]))
    (tsSeq (tsIf (tdOr (tdB (tdOp (dIn true) (tdVar 3) (tdC (.tup [(.str "fetch"), (.str "bring")])))) (tdOr (tdB (tdOp (dIn true) (tdVar 5) (tdC (.tup [(.str "left"), (.str "right"), (.str "any")])))) (tdNotT (tdB (tdChain dLe dLt (tdC (.int 0)) (tdVar 4) (tdVar 2)))))) (tsRet (tdC (.bl false))) tsNext)
    (tsSeq (tsIf (tdOr (tdB (tdOp (dIn true) (tdVar 6) (tdTup (tdCons (tdC (.int 0)) (tdCons (tdC (.int 1)) tdNil))))) (tdNotT (tdB (tdChain dLe dLe (tdC (.int 0)) (tdVar 7) (tdC (.int 3)))))) (tsRet (tdC (.bl false))) tsNext)
    (tsRet (tdAndV (tdOp dEq (tdCB dList (tdCons (tdVar 8) tdNil)) (tdCB dSortedSet (tdCons (tdVar 8) tdNil))) (tdOp dEq (tdLc (tiSeq (tdVar 8)) (.name 9) (tdNotT (tdB (tdChain dLe dLt (tdC (.int 0)) (tdVar 9) (tdVar 1)))) (tdVar 9) [9]) (tdLst tdNil)))))))
theorem q_is_wish (C : CC) : Q_ (sp_is_wish C) (td_is_wish C) 10 := by
  rintro ds W Qd Ed ⟨x, n, m, rfl, hx, hm, h⟩
  obtain ⟨h1, h2, h3, h4, h5, h6, h7⟩ := hx
  have hk : (x.bring = false ∨ x.bring = true) := by cases x.bring <;> simp
  have hsd : (x.side = .left ∨ x.side = .right ∨ x.side = .any) := by cases x.side <;> simp
  simp [td_is_wish, sizeLine, h1, h2, h4, h5]
  have hlen := sorted_len 0 h6 (n := m) (by simpa using h7)
  rw [if_neg (by rcases hsd with e | e | e <;> simp [e]), if_neg (by omega)]
  refine ⟨by omega, fun ms h8 h9 => ?_⟩
  rw [if_pos (sorted_ext h6 h8 fun k => (h9 k).symm)]
  refine ⟨by omega, ?_⟩
  refine lcL_pure (α := Int) D.int (fun _ => false) D.int _ trivial ?_ [] ?_
  · intro a ha Kt Kf hk
    have := h7 a ha
    simp [this]
    simpa using hk
  · simpa using h
theorem putG_end {f : Str} {d : D} : ∀ {fs : List (Str × D)}, (∀ p ∈ fs, p.1 ≠ f) → putG f d fs = fs ++ [(f, d)]
  | [], _ => rfl
  | p :: fs, h => by
    unfold putG
    rw [if_neg (h p List.mem_cons_self), putG_end fun q hq => h q (List.mem_cons_of_mem _ hq)]
    rfl
def sp_Store_init (C : CC) : SpD := fun ds W Q _ => ∃ (a : Addr) (s : Store) (d1 d2 : D), ds = [.ref a, d1, .int s.aisle, d2] ∧ isL W d1 (s.shelves.map Shelf.d) ∧ isL W d2 (s.wishes.map Wish.d) ∧ s.Ok ∧ W a = some (.ins C.st []) ∧
  Q .non (updW W a (.ins C.st [("kept_shelves", .lst (s.shelves.map Shelf.d)), ("aisle", .int s.aisle), ("kept_wishes", .lst (s.wishes.map Wish.d))]))
theorem sp_must_s {C : CC} {x y : D} {W : Wd} {Q : QD} {E : XD} (h : Q .non W) : sp_must C [.bl true, x, y] W Q E := ⟨x, y, rfl, h⟩
theorem sp_is_shelf_s {C : CC} {x : Shelf} {W : Wd} {Q : QD} {E : XD} (h : Q (.bl (shelfB x)) W) : sp_is_shelf C [x.d] W Q E := ⟨x, rfl, h⟩
theorem sp_is_wish_s {C : CC} {x : Wish} {n m : Nat} {W : Wd} {Q : QD} {E : XD} (hx : x.Ok n m) (hm : m ≤ 60) (h : Q (.bl true) W) : sp_is_wish C [x.d, .int m, .int n] W Q E := ⟨x, n, m, rfl, hx, hm, h⟩
def td_Store_init (C : CC) : TSd :=
  (tsSeq (tsDrop (tdCall (sp_must C) (tdCons (tdChain dLe dLe (tdC (.int 1)) (tdCB dLen (tdCons (tdVar 1) tdNil)) (tdC (.int 5))) (tdCons (tdC (.str "shelves")) (tdCons (tdC (.int 0)) tdNil)))))
    (tsSeq (tsFor (tiRange1 (tdCB dLen (tdCons (tdVar 1) tdNil))) (.name 4) (tsDrop (tdCall (sp_must C) (tdCons (tdCall (sp_is_shelf C) (tdCons (tdOp dIx (tdVar 1) (tdVar 4)) tdNil)) (tdCons (tdC (.str "shelf")) (tdCons (tdVar 4) tdNil))))))
    (tsSeq (tsDrop (tdCall (sp_must C) (tdCons (tdChain dLe dLe (tdC (.int 0)) (tdVar 2) (tdCB dLen (tdCons (tdVar 1) tdNil))) (tdCons (tdC (.str "aisle")) (tdCons (tdC (.int 0)) tdNil)))))
    (tsSeq (tsDrop (tdCall (sp_must C) (tdCons (tdOp dLe (tdCB dLen (tdCons (tdVar 3) tdNil)) (tdC (.int 5))) (tdCons (tdC (.str "wishes")) (tdCons (tdC (.int 0)) tdNil)))))
    (tsSeq (tsFor (tiRange1 (tdCB dLen (tdCons (tdVar 3) tdNil))) (.name 4) (tsDrop (tdCall (sp_must C) (tdCons (tdCall (sp_is_wish C) (tdCons (tdOp dIx (tdVar 3) (tdVar 4)) (tdCons (tdCB dLen (tdCons (tdVar 3) tdNil)) (tdCons (tdCB dLen (tdCons (tdVar 1) tdNil)) tdNil)))) (tdCons (tdC (.str "wish")) (tdCons (tdVar 4) tdNil))))))
    (tsSeq (tsFld C.st "kept_shelves" (tdVar 0) (tdCB dList (tdCons (tdVar 1) tdNil)))
    (tsSeq (tsFld C.st "aisle" (tdVar 0) (tdVar 2))
    (tsFld C.st "kept_wishes" (tdVar 0) (tdCB dList (tdCons (tdVar 3) tdNil))))))))))
theorem q_Store_init (C : CC) : Q_ (sp_Store_init C) (td_Store_init C) 5 := by
  rintro ds W Qd Ed ⟨a, s, d1, d2, rfl, hd1, hd2, hs, ha, h⟩
  have h0 := hs.n1
  have h00 : s.shelves ≠ [] := by intro e; rw [e] at h0; simp at h0
  have hna : ∀ ys, W a ≠ some (.lst ys) := fun ys e => by rw [ha] at e; cases e
  simp [td_Store_init, sizeLine, hd1.len, -Shelf.d, -Wish.d]
  rw [if_pos (by omega)]
  have n5' : (s.shelves.length : Int) ≤ 5 := by have := hs.n5; omega
  have m5' : (s.wishes.length : Int) ≤ 5 := by have := hs.m5; omega
  simp only [n5', decide_true]
  refine sp_must_s ?_
  simp [hd1.len, -Shelf.d, -Wish.d]
  refine ⟨by omega, ?_⟩
  refine forL_inv (α := Nat) (fun i => .int (i : Nat)) (fun as ρ W' => W' = W ∧ (∀ i ∈ as, i < s.shelves.length) ∧ ∃ k, ρ = [some (.ref a), some d1, some (.int s.aisle), some d2, k]) ?_ ?_ _ _ W ⟨rfl, fun i hi => by simpa using hi, _, rfl⟩
  · rintro ρ W' ⟨rfl, _, k, rfl⟩
    refine ⟨trivial, ?_⟩
    simp [sizeLine, -Shelf.d, -Wish.d, hs.a0, hs.a1, m5', hd1.len, hd2.len]
    refine sp_must_s ?_
    simp [sizeLine, -Shelf.d, -Wish.d, hs.a0, hs.a1, m5', hd1.len, hd2.len]
    refine sp_must_s ?_
    simp [hd2.len, -Shelf.d, -Wish.d]
    refine ⟨by have := hs.m5; omega, ?_⟩
    refine forL_inv (α := Nat) (fun i => .int (i : Nat)) (fun as ρ W'' => W'' = W' ∧ (∀ i ∈ as, i < s.wishes.length) ∧ ∃ k, ρ = [some (.ref a), some d1, some (.int s.aisle), some d2, k]) ?_ ?_ _ _ W' ⟨rfl, fun i hi => by simpa using hi, _, rfl⟩
    · rintro ρ W'' ⟨rfl, _, k, rfl⟩
      refine ⟨trivial, ?_⟩
      have hd2' : ∀ c, isL (updW W'' a c) d2 (s.wishes.map Wish.d) := fun c => hd2.upd_ne hna
      simp [-Shelf.d, -Wish.d, ha, updW_same, putG, updW_updW, hd1.items, (hd2' _).items]
      exact h
    · rintro i as ρ W'' Nx ⟨rfl, hi, k, rfl⟩ hN
      have h1 := hi i List.mem_cons_self
      refine ⟨trivial, ?_⟩
      simp [-Shelf.d, -Wish.d, getI_nat, h1, hd1.len, hd2.len, hd2.ix]
      exact sp_is_wish_s (hs.wi _ (List.getElem_mem h1)) (by have := hs.m5; omega) (sp_must_s (hN _ _ ⟨rfl, fun i z => hi i (List.mem_cons_of_mem _ z), _, rfl⟩))
  · rintro i as ρ W' Nx ⟨rfl, hi, k, rfl⟩ hN
    have h1 := hi i List.mem_cons_self
    refine ⟨trivial, ?_⟩
    simp [-Shelf.d, -Wish.d, getI_nat, h1, hd1.ix]
    refine sp_is_shelf_s ?_
    rw [shelfB_ok (hs.sh _ (List.getElem_mem h1))]
    exact sp_must_s (hN _ _ ⟨rfl, fun i z => hi i (List.mem_cons_of_mem _ z), _, rfl⟩)
def sp_Store_shelves (C : CC) : SpD := fun ds W Q _ => ∃ s : Store, ds = [s.o C] ∧ ∀ p, W p = none → Q (.ref p) (updW W p (.lst (s.shelves.map Shelf.d)))
def sp_Store_wishes (C : CC) : SpD := fun ds W Q _ => ∃ s : Store, ds = [s.o C] ∧ ∀ p, W p = none → Q (.ref p) (updW W p (.lst (s.wishes.map Wish.d)))
def td_Store_shelves (C : CC) : TSd :=
  (tsRet (tdCB dListM (tdCons (tdFld C.st "kept_shelves" (tdVar 0)) tdNil)))
def td_Store_wishes (C : CC) : TSd :=
  (tsRet (tdCB dListM (tdCons (tdFld C.st "kept_wishes" (tdVar 0)) tdNil)))
theorem q_Store_shelves (C : CC) : Q_ (sp_Store_shelves C) (td_Store_shelves C) 1 := by
  rintro ds W Qd Ed ⟨s, rfl, h⟩
  simpa [td_Store_shelves, -Shelf.d] using h
theorem q_Store_wishes (C : CC) : Q_ (sp_Store_wishes C) (td_Store_wishes C) 1 := by
  rintro ds W Qd Ed ⟨s, rfl, h⟩
  simpa [td_Store_wishes, -Wish.d] using h
@[simp] theorem sp_Store_shelves_s {C : CC} {s : Store} {W : Wd} {Q : QD} {E : XD} : sp_Store_shelves C [s.o C] W Q E = ∀ p, W p = none → Q (.ref p) (updW W p (.lst (s.shelves.map Shelf.d))) := by simp [sp_Store_shelves, -Shelf.d]
@[simp] theorem sp_Store_wishes_s {C : CC} {s : Store} {W : Wd} {Q : QD} {E : XD} : sp_Store_wishes C [s.o C] W Q E = ∀ p, W p = none → Q (.ref p) (updW W p (.lst (s.wishes.map Wish.d))) := by simp [sp_Store_wishes, -Wish.d]
@[simp] theorem sp_begin_s {C : CC} {s : Store} {W : Wd} {Q : QD} {E : XD} : sp_begin C [s.o C] W Q E = Q (begin_ s).d W := by simp [sp_begin]
theorem sp_steps_at_s {C : CC} {s : Store} {a k : Int} {dn ins : List Int} {W : Wd} {Q : QD} {E : XD} (h1 : s.Ok) (h2 : State.Ok s ⟨a, dn, ins, k⟩) (h3 : ∀ p, W p = none → Q (.ref p) (updW W p (.lst ((stepsAt s ⟨a, dn, ins, k⟩).map Step.d)))) : sp_steps_at C [s.o C, .tup [.int a, .tup (dn.map .int), .tup (ins.map .int), .int k]] W Q E := ⟨s, ⟨a, dn, ins, k⟩, rfl, h1, h2, h3⟩
theorem sp_barred_s {C : CC} {s : Store} {a k : Int} {dn ins : List Int} {t : Step} {W : Wd} {Q : QD} {E : XD} (h1 : s.Ok) (h2 : State.Ok s ⟨a, dn, ins, k⟩) (h3 : t.Ok s) (h4 : Q (barD (bar s ⟨a, dn, ins, k⟩ t)) W) : sp_barred C [s.o C, .tup [.int a, .tup (dn.map .int), .tup (ins.map .int), .int k], t.d] W Q E := ⟨s, ⟨a, dn, ins, k⟩, t, rfl, h1, h2, h3, h4⟩
end AI

/-! SM2: what the laws share: drawn stores, what bars a step once more. -/
namespace AI
open PySem PySem.Spec PyProof.Rows L2 DL

def sp_l_taken (C : CC) : SpD := fun ds W Q _ => ∃ (r : Addr) (n : Int), ds = [.ref r, .int n] ∧ RowOk W r ∧ 0 < n ∧ ∀ i W', 0 ≤ i → i < n → RowE r W W' → Q (.int i) W'
@[simp] theorem sp_l_taken_s {C : CC} {r : Addr} {n : Int} {W : Wd} {Q : QD} {E : XD} : sp_l_taken C [.ref r, .int n] W Q E = (RowOk W r ∧ 0 < n ∧ ∀ i W', 0 ≤ i → i < n → RowE r W W' → Q (.int i) W') := by
  simp [sp_l_taken, and_assoc]
def td_l_taken (C : CC) : TSd :=
  (tsSeq (tsSub (tdVar 0) (tdC (.int 1)) (tdOp dAdd (tdOp dIx (tdVar 0) (tdC (.int 1))) (tdC (.int 1))))
    (tsSeq (tsIf (tdB (tdOp dGt (tdOp dIx (tdVar 0) (tdC (.int 1))) (tdCB dLen (tdCons (tdOp dIx (tdVar 0) (tdC (.int 0))) tdNil)))) (tsSeq (tsSub (tdVar 0) (tdC (.int 2)) (tdOp dMod (tdOp dAdd (tdOp dMul (tdOp dIx (tdVar 0) (tdC (.int 2))) (tdC (.int 48271))) (tdC (.int 11))) (tdC (.int 2147483647))))
    (tsRet (tdOp dMod (tdOp dFdiv (tdOp dIx (tdVar 0) (tdC (.int 2))) (tdC (.int 7))) (tdVar 1)))) tsNext)
    (tsSeq (tsAsg (tdOp dIx (tdOp dIx (tdVar 0) (tdC (.int 0))) (tdOp dSub (tdOp dIx (tdVar 0) (tdC (.int 1))) (tdC (.int 1)))) (.name 2))
    (tsSeq (tsSub (tdVar 0) (tdC (.int 2)) (tdOp dMod (tdOp dAdd (tdOp dAdd (tdOp dMul (tdOp dIx (tdVar 0) (tdC (.int 2))) (tdC (.int 48271))) (tdVar 2)) (tdC (.int 11))) (tdC (.int 2147483647))))
    (tsRet (tdOp dMod (tdVar 2) (tdVar 1)))))))
theorem q_l_taken (C : CC) : Q_ (sp_l_taken C) (td_l_taken C) 3 := by
  rintro ds W Qd Ed ⟨r, n, rfl, ⟨ns, p, c, hp, hr⟩, hn, h⟩
  simp [td_l_taken, hr, updW_same, updW_updW]
  have fin : ∀ (i p' c' : Int) W', W' = updW W r (.lst [.scr ns, .int p', .int c']) → 0 ≤ p' → Qd (.int (i % n)) W' := by
    rintro i p' c' W' rfl hp'
    exact h _ _ (Int.emod_nonneg _ (by omega)) (Int.emod_lt_of_pos _ hn) ⟨⟨_, _, _, hp', updW_same⟩, fun a ha => updW_ne ha⟩
  split
  · exact ⟨hn, fin _ _ _ _ rfl (by omega)⟩
  · rename_i e
    obtain ⟨x, hx, _⟩ := getI_some (xs := ns) hp (by omega)
    simp [hx, updW_same, updW_updW]
    exact ⟨hn, fin _ _ _ _ rfl (by omega)⟩
def sp_l_wish (C : CC) : SpD := fun ds W Q _ => ∃ (r : Addr) (n m : Nat), ds = [.ref r, .int n, .int m] ∧ RowOk W r ∧ 0 < n ∧ m ≤ 60 ∧ ∀ (x : Wish) W', x.Ok n m → RowE r W W' → Q x.d W'
@[simp] theorem ix2 {W : Wd} {Q : QD} {a b : D} {i : Int} (h0 : 0 ≤ i) (h1 : i < 2) : optQ (getI [a, b] i) Q W = Q (if i = 0 then a else b) W := by
  have : i = 0 ∨ i = 1 := by omega
  rcases this with rfl | rfl <;> simp
def td_l_wish (C : CC) : TSd :=
  (tsSeq (tsAsg (tdOp dIx (tdLst (tdCons (tdC (.str "fetch")) (tdCons (tdC (.str "bring")) tdNil))) (tdCall (sp_l_taken C) (tdCons (tdVar 0) (tdCons (tdC (.int 2)) tdNil)))) (.name 3))
    (tsSeq (tsAsg (tdOp dIx (tdLst (tdCons (tdC (.str "any")) (tdCons (tdC (.str "any")) (tdCons (tdC (.str "left")) (tdCons (tdC (.str "right")) tdNil))))) (tdCall (sp_l_taken C) (tdCons (tdVar 0) (tdCons (tdC (.int 4)) tdNil)))) (.name 4))
    (tsSeq (tsAsg (tdLc (tiRange1 (tdVar 2)) (.name 6) (tdB (tdOp dEq (tdCall (sp_l_taken C) (tdCons (tdVar 0) (tdCons (tdOp dIx (tdLst (tdCons (tdC (.int 4)) (tdCons (tdC (.int 3)) tdNil))) (tdCB dInt (tdCons (tdOp dEq (tdVar 6) (tdC (.int 0))) tdNil))) tdNil))) (tdC (.int 0)))) (tdVar 6) [6]) (.name 5))
    (tsSeq (tsIf (tdB (tdOp dGt (tdCall (sp_l_taken C) (tdCons (tdVar 0) (tdCons (tdC (.int 8)) tdNil))) (tdC (.int 0)))) (tsAsg (tdSl (tdVar 5) tdNoPart (tdPart (tdC (.int 2)))) (.name 5)) tsNext)
    (tsRet (tdTup (tdCons (tdVar 3) (tdCons (tdCall (sp_l_taken C) (tdCons (tdVar 0) (tdCons (tdVar 1) tdNil))) (tdCons (tdVar 4) (tdCons (tdCall (sp_l_taken C) (tdCons (tdVar 0) (tdCons (tdC (.int 2)) tdNil))) (tdCons (tdOp dIx (tdLst (tdCons (tdC (.int 0)) (tdCons (tdC (.int 0)) (tdCons (tdC (.int 1)) (tdCons (tdC (.int 2)) (tdCons (tdC (.int 3)) tdNil)))))) (tdCall (sp_l_taken C) (tdCons (tdVar 0) (tdCons (tdC (.int 5)) tdNil)))) (tdCons (tdCB dTuple (tdCons (tdVar 5) tdNil)) tdNil))))))))))))
theorem q_l_wish (C : CC) : Q_ (sp_l_wish C) (td_l_wish C) 7 := by
  rintro ds W Qd Ed ⟨r, n, m, rfl, hr, hn, hm, h⟩
  simp [td_l_wish, sizeLine, hr]
  intro i1 W1 hi1 hi1' e1
  have k1 : getI [D.str (Str.ofString "fetch"), D.str (Str.ofString "bring")] i1 = some (.str (kindS (decide (i1 = 1)))) := by
    have : i1 = 0 ∨ i1 = 1 := by omega
    rcases this with rfl | rfl <;> simp [kindS]
  simp [k1, e1.1]
  intro i2 W2 hi2 hi2' e2
  obtain ⟨sd, k2⟩ : ∃ sd : Side, getI [D.str (Str.ofString "any"), D.str (Str.ofString "any"), D.str (Str.ofString "left"), D.str (Str.ofString "right")] i2 = some (.str sd.s) := by
    have : i2 = 0 ∨ i2 = 1 ∨ i2 = 2 ∨ i2 = 3 := by omega
    rcases this with rfl | rfl | rfl | rfl
    · exact ⟨.any, by simp [Side.s]⟩
    · exact ⟨.any, by simp [Side.s]⟩
    · exact ⟨.left, by simp [Side.s]⟩
    · exact ⟨.right, by simp [Side.s]⟩
  simp [k2]
  refine ⟨by omega, by omega, ?_⟩
  refine lcL_inv (α := Nat) (fun i => .int (i : Nat)) (fun as acc W' => RowE r W W' ∧ as.Pairwise (· < ·) ∧ (∀ a ∈ as, a < m) ∧ ∃ l : List Int, acc = l.map D.int ∧ l.Pairwise (· < ·) ∧ ∀ x ∈ l, (0 ≤ x ∧ x < m) ∧ ∀ a ∈ as, x < (a : Nat)) ?_ ?_ _ _ W2
    ⟨e1.trans e2, List.pairwise_lt_range, fun a ha => by simpa using ha, [], rfl, List.Pairwise.nil, by simp⟩
  · rintro acc W3 ⟨e3, _, _, l, rfl, hl, hb⟩
    refine ⟨trivial, ?_⟩
    have fin : ∀ (l' : List Int) W4, l'.Pairwise (· < ·) → (∀ x ∈ l', 0 ≤ x ∧ x < (m : Int)) → RowE r W W4 → ∀ (i : Int) W5, 0 ≤ i → i < n → RowE r W4 W5 → RowOk W5 r ∧ ∀ i6 W6, 0 ≤ i6 → i6 < 2 → RowE r W5 W6 → RowOk W6 r ∧ ∀ i7 W7, 0 ≤ i7 → i7 < 5 → RowE r W6 W7 →
        optQ (getI [D.int 0, D.int 0, D.int 1, D.int 2, D.int 3] i7) (fun x W8 => Qd (.tup [.str (kindS (decide (i1 = 1))), .int i, .str sd.s, .int i6, x, .tup (l'.map .int)]) W8) W7 := by
      intro l' W4 hl' hb' e4 i W5 hi hi' e5
      refine ⟨e5.1, fun i6 W6 hi6 hi6' e6 => ⟨e6.1, fun i7 W7 hi7 hi7' e7 => ?_⟩⟩
      obtain ⟨kp, hk0, hk3, k7⟩ : ∃ kp : Int, 0 ≤ kp ∧ kp ≤ 3 ∧ getI [D.int 0, D.int 0, D.int 1, D.int 2, D.int 3] i7 = some (.int kp) := by
        have : i7 = 0 ∨ i7 = 1 ∨ i7 = 2 ∨ i7 = 3 ∨ i7 = 4 := by omega
        rcases this with rfl | rfl | rfl | rfl | rfl
        · exact ⟨0, by omega, by omega, by simp⟩
        · exact ⟨0, by omega, by omega, by simp⟩
        · exact ⟨1, by omega, by omega, by simp⟩
        · exact ⟨2, by omega, by omega, by simp⟩
        · exact ⟨3, by omega, by omega, by simp⟩
      rw [k7]
      exact h ⟨decide (i1 = 1), i, sd, i6, kp, l'⟩ W7 ⟨hi, hi', by show i6 = 0 ∨ i6 = 1; omega, hk0, hk3, hl', hb'⟩ (e4.trans (e5.trans (e6.trans e7)))
    simp [e3.1]
    intro i4 W4 hi4 hi4' e4
    split
    · simp [e4.1]
      refine ⟨hn, fun i W5 hi hi' e5 => ?_⟩
      rw [← List.map_take]
      exact fin (l.take 2) W4 (hl.sublist (List.take_sublist 2 l)) (fun x hx => (hb x (List.mem_of_mem_take hx)).1) (e3.trans e4) i W5 hi hi' e5
    · simp [e4.1]
      exact ⟨hn, fun i W5 hi hi' e5 => fin l W4 hl (fun x hx => (hb x hx).1) (e3.trans e4) i W5 hi hi' e5⟩
  · rintro a as acc W3 Nx ⟨e3, hp, ha, l, rfl, hl, hb⟩ hN
    refine ⟨trivial, ?_⟩
    have hp' := List.pairwise_cons.mp hp
    simp [e3.1, sizeLine]
    have fin : ∀ W4, RowE r W3 W4 → ∀ keep : Bool, Nx (if keep = true then List.map D.int l ++ [D.int a] else List.map D.int l) W4 := by
      intro W4 e4 keep
      refine hN _ _ ⟨e3.trans e4, hp'.2, fun b hb' => ha b (List.mem_cons_of_mem _ hb'), ?_⟩
      cases keep with
      | true =>
        refine ⟨l ++ [(a : Int)], by simp, ?_, ?_⟩
        · rw [List.pairwise_append]
          exact ⟨hl, List.pairwise_singleton _ _, fun x hx y hy => by simp at hy; subst hy; exact (hb x hx).2 a List.mem_cons_self⟩
        · intro x hx
          rcases List.mem_append.mp hx with z | z
          · exact ⟨(hb x z).1, fun b hb' => (hb x z).2 b (List.mem_cons_of_mem _ hb')⟩
          · simp at z; subst z
            have := ha a List.mem_cons_self
            exact ⟨⟨by omega, by omega⟩, fun b hb' => by have := hp'.1 b hb'; omega⟩
      | false => exact ⟨l, rfl, hl, fun x hx => ⟨(hb x hx).1, fun b hb' => (hb x hx).2 b (List.mem_cons_of_mem _ hb')⟩⟩
    have fin2 : ∀ (i : Int) W4, RowE r W3 W4 → if i = 0 then Nx (List.map D.int l ++ [D.int a]) W4 else Nx (List.map D.int l) W4 := by
      intro i W4 e4
      split
      · exact fin W4 e4 true
      · exact fin W4 e4 false
    by_cases ea : a = 0
    · simp [ea, e3.1] at fin2 ⊢
      exact fun i W4 _ _ e4 => fin2 i W4 e4
    · simp [ea, e3.1] at fin2 ⊢
      exact fun i W4 _ _ e4 => fin2 i W4 e4
theorem Wish.Ok.mono {n m n' m' : Nat} {x : Wish} (h : x.Ok n m) (hn : n ≤ n') (hm : m ≤ m') : x.Ok n' m' :=
  ⟨h.s0, by have := h.s1; omega, h.cr, h.k0, h.k1, h.so, fun a ha => by have := h.af a ha; omega⟩
theorem sp_l_wish_s {C : CC} {r : Addr} {n m : Nat} {W : Wd} {Q : QD} {E : XD} (h1 : RowOk W r) (h2 : 0 < n) (h3 : m ≤ 60) (h : ∀ (x : Wish) W', x.Ok n m → RowE r W W' → Q x.d W') : sp_l_wish C [.ref r, .int n, .int m] W Q E := ⟨r, n, m, rfl, h1, h2, h3, h⟩
def sp_l_store (C : CC) : SpD := fun ds W Q _ => ∃ (r : Addr), ds = [.ref r] ∧ RowOk W r ∧ ∀ (s : Store) W', s.Ok → RowE r W W' → Q s.t W'
/-- the row and one more cell -/
def RowE2 (r p : Addr) (c : Cell) (W W' : Wd) : Prop := RowOk W' r ∧ W' p = some c ∧ ∀ a, a ≠ r → a ≠ p → W' a = W a
theorem RowE2.step {r p : Addr} {c : Cell} {W W' W'' : Wd} (h : RowE2 r p c W W') (hp : p ≠ r) (e : RowE r W' W'') : RowE2 r p c W W'' := ⟨e.1, by rw [e.2 p hp]; exact h.2.1, fun a h1 h2 => by rw [e.2 a h1]; exact h.2.2 a h1 h2⟩
theorem RowE2.upd {r p : Addr} {c c' : Cell} {W W' : Wd} (h : RowE2 r p c W W') (hp : p ≠ r) : RowE2 r p c' W (updW W' p c') := ⟨h.1.upd hp, updW_same, fun a h1 h2 => by rw [updW_ne h2]; exact h.2.2 a h1 h2⟩
def td_l_store (C : CC) : TSd :=
  (tsSeq (tsAsg (tdLstM tdNil) (.name 1))
    (tsSeq (tsFor (tiRange1 (tdOp dAdd (tdC (.int 1)) (tdCall (sp_l_taken C) (tdCons (tdVar 0) (tdCons (tdC (.int 5)) tdNil))))) (.name 2) (tsSeq (tsAsg (tdOp dIx (tdLst (tdCons (tdOp dAdd (tdC (.int 1)) (tdCall (sp_l_taken C) (tdCons (tdVar 0) (tdCons (tdC (.int 3)) tdNil)))) (tdCons (tdC (.int 9)) (tdCons (tdCall (sp_l_taken C) (tdCons (tdVar 0) (tdCons (tdC (.int 10)) tdNil))) tdNil)))) (tdCall (sp_l_taken C) (tdCons (tdVar 0) (tdCons (tdC (.int 3)) tdNil)))) (.name 3))
    (tsDrop (tdBM ty_append dAppend (tdVar 1) (tdCons (tdTup (tdCons (tdVar 3) (tdCons (tdCall (sp_l_taken C) (tdCons (tdVar 0) (tdCons (tdOp dAdd (tdVar 3) (tdC (.int 1))) tdNil))) (tdCons (tdCB dInt (tdCons (tdOp dEq (tdCall (sp_l_taken C) (tdCons (tdVar 0) (tdCons (tdC (.int 9)) tdNil))) (tdC (.int 8))) tdNil)) tdNil)))) tdNil)))))
    (tsSeq (tsAsg (tdCall (sp_l_taken C) (tdCons (tdVar 0) (tdCons (tdOp dAdd (tdCB dLen (tdCons (tdVar 1) tdNil)) (tdC (.int 1))) tdNil))) (.name 4))
    (tsSeq (tsAsg (tdOp dIx (tdLst (tdCons (tdOp dAdd (tdC (.int 1)) (tdCall (sp_l_taken C) (tdCons (tdVar 0) (tdCons (tdC (.int 3)) tdNil)))) (tdCons (tdCall (sp_l_taken C) (tdCons (tdVar 0) (tdCons (tdC (.int 6)) tdNil))) tdNil))) (tdCall (sp_l_taken C) (tdCons (tdVar 0) (tdCons (tdC (.int 2)) tdNil)))) (.name 5))
    (tsSeq (tsIf (tdAnd (tdB (tdOp dEq (tdVar 5) (tdC (.int 5)))) (tdB (tdOp dGt (tdCB dLen (tdCons (tdVar 1) tdNil)) (tdC (.int 3))))) (tsAsg (tdOp dAdd (tdC (.int 4)) (tdCB dInt (tdCons (tdOp dEq (tdCall (sp_l_taken C) (tdCons (tdVar 0) (tdCons (tdC (.int 4)) tdNil))) (tdC (.int 3))) tdNil))) (.name 5)) tsNext)
    (tsSeq (tsAsg (tdLstM tdNil) (.name 6))
    (tsSeq (tsFor (tiRange1 (tdVar 5)) (.name 2) (tsDrop (tdBM ty_append dAppend (tdVar 6) (tdCons (tdCall (sp_l_wish C) (tdCons (tdVar 0) (tdCons (tdCB dLen (tdCons (tdVar 1) tdNil)) (tdCons (tdOp dIx (tdLst (tdCons (tdVar 2) (tdCons (tdVar 5) tdNil))) (tdCB dInt (tdCons (tdOp dEq (tdCall (sp_l_taken C) (tdCons (tdVar 0) (tdCons (tdC (.int 12)) tdNil))) (tdC (.int 11))) tdNil))) tdNil)))) tdNil))))
    (tsRet (tdTup (tdCons (tdFrz (tdVar 1)) (tdCons (tdVar 4) (tdCons (tdFrz (tdVar 6)) tdNil))))))))))))
theorem q_l_store (C : CC) : Q_ (sp_l_store C) (td_l_store C) 7 := by
  rintro ds W Qd Ed ⟨r, rfl, hr, h⟩
  simp [td_l_store, sizeLine]
  intro p hp
  have hpr : p ≠ r := hr.ne hp
  simp [hr.upd hpr]
  intro i1 W1 hi1 hi1' e1
  have E1 : RowE2 r p (.lst []) W W1 := RowE2.step ⟨hr.upd hpr, updW_same, fun a _ h2 => updW_ne h2⟩ hpr e1
  refine ⟨by omega, ?_⟩
  refine forL_inv (α := Nat) (fun i => .int (i : Nat)) (fun as ρ W' => ∃ sh : List Shelf, RowE2 r p (.lst (sh.map Shelf.d)) W W' ∧ (∀ x ∈ sh, x.Ok) ∧ (sh.length : Int) + as.length = 1 + i1 ∧ ∃ k z, ρ = [some (.ref r), some (.ref p), k, z, none, none, none]) ?_ ?_ _ _ W1 ⟨[], E1, by simp, by simp; omega, _, _, rfl⟩
  · rintro ρ W2 ⟨sh, E2, hsh, hl, k, z, rfl⟩
    refine ⟨trivial, ?_⟩
    simp at hl
    simp [E2.1, E2.2.1]
    intro ai W3 hai hai' e3
    have E3 := E2.step hpr e3
    simp [E3.1]
    intro i4 W4 hi4 hi4' e4
    simp [sizeLine, e4.1]
    intro i5 W5 hi5 hi5' e5
    simp [e5.1]
    intro i6 W6 hi6 hi6' e6
    have E6 := ((E3.step hpr e4).step hpr e5).step hpr e6
    obtain ⟨mn, hm0, hm5, k6⟩ : ∃ mn : Nat, mn ≤ 5 ∧ (mn = 5 → True) ∧ getI [D.int (1 + i4), D.int i5] i6 = some (.int mn) := by
      have : i6 = 0 ∨ i6 = 1 := by omega
      rcases this with rfl | rfl
      · exact ⟨(1 + i4).toNat, by omega, fun _ => trivial, by simp; omega⟩
      · exact ⟨i5.toNat, by omega, fun _ => trivial, by simp; omega⟩
    have hl1 : 1 ≤ sh.length := by omega
    have hl5 : sh.length ≤ 5 := by omega
    simp [k6, E6.2.1]
    have tail : ∀ (mn : Nat) W7 q, mn ≤ 5 → RowE2 r p (.lst (sh.map Shelf.d)) W W7 → W7 q = none →
      forL (.name 2) (tsDrop (tdBM ty_append dAppend (tdVar 6) (tdCons (tdCall (sp_l_wish C) (tdCons (tdVar 0) (tdCons (tdCB dLen (tdCons (tdVar 1) tdNil)) (tdCons (tdOp dIx (tdLst (tdCons (tdVar 2) (tdCons (tdVar 5) tdNil))) (tdCB dInt (tdCons (tdOp dEq (tdCall (sp_l_taken C) (tdCons (tdVar 0) (tdCons (tdC (.int 12)) tdNil))) (tdC (.int 11))) tdNil))) tdNil)))) tdNil)))
        { nx := tsRet (tdTup (tdCons (tdFrz (tdVar 1)) (tdCons (tdVar 4) (tdCons (tdFrz (tdVar 6)) tdNil)))) { nx := fun x W' => Qd D.non W', rt := Qd, ex := Ed }, rt := Qd, ex := Ed }
        (fun _ => True) ((List.range mn).map fun i => D.int (i : Nat)) [some (.ref r), some (.ref p), k, z, some (.int ai), some (.int mn), some (.ref q)] (updW W7 q (.lst [])) := by
      intro mn W7 q hmn E7 hq
      have hqr : q ≠ r := E7.1.ne hq
      have hqp : q ≠ p := fun e => by rw [e, E7.2.1] at hq; cases hq
      have hWq : W q = none := by rw [← E7.2.2 q hqr hqp]; exact hq
      refine forL_inv (α := Nat) (fun i => .int (i : Nat)) (fun as ρ W' => ∃ ws : List Wish, RowOk W' r ∧ W' p = some (.lst (sh.map Shelf.d)) ∧ W' q = some (.lst (ws.map Wish.d)) ∧ (∀ a, a ≠ r → a ≠ p → a ≠ q → W' a = W a) ∧ (∀ x ∈ ws, x.Ok sh.length mn) ∧ ws.length + as.length = mn ∧ (∀ a ∈ as, a < mn) ∧
        ∃ k, ρ = [some (.ref r), some (.ref p), k, z, some (.int ai), some (.int mn), some (.ref q)]) ?_ ?_ _ _ _ ⟨[], E7.1.upd hqr, by rw [updW_ne (Ne.symm hqp)]; exact E7.2.1, updW_same, fun a h1 h2 h3 => by rw [updW_ne h3]; exact E7.2.2 a h1 h2, by simp, by simp, fun a ha => by simpa using ha, _, rfl⟩
      · rintro ρ W8 ⟨ws, g1, g2, g3, g4, g5, g6, g7, k8, rfl⟩
        refine ⟨trivial, ?_⟩
        simp at g6
        simp [g2, delW_ne hqp, g3, sizeLine]
        refine h ⟨sh, ai, ws⟩ _ ⟨hl1, hl5, hsh, hai, by show ai ≤ (sh.length : Int); omega, by show ws.length ≤ 5; omega, fun x hx => (g5 x hx).mono (Nat.le_refl _) (by show mn ≤ ws.length; omega)⟩ ⟨?_, fun a ha => ?_⟩
        · obtain ⟨n1, n2, n3, n4, n5⟩ := g1
          exact ⟨n1, n2, n3, n4, by rw [delW_ne (Ne.symm hqr), delW_ne (Ne.symm hpr)]; exact n5⟩
        · by_cases ea : a = q
          · subst ea; rw [delW_same, hWq]
          · rw [delW_ne ea]
            by_cases eb : a = p
            · subst eb; rw [delW_same, hp]
            · rw [delW_ne eb]; exact g4 a ha eb ea
      · rintro a as ρ W8 Nx ⟨ws, g1, g2, g3, g4, g5, g6, g7, k8, rfl⟩ hN
        refine ⟨trivial, ?_⟩
        have ga := g7 a List.mem_cons_self
        simp at g6
        simp [g1, g2, g3, ty_list_ref _ g3, sizeLine, -Wish.d]
        intro i8 W9 hi8 hi8' e9
        have key : ∀ (m' : Nat) (x : Wish) W10, m' ≤ mn → x.Ok sh.length m' → RowE r W9 W10 → W10 q = some (.lst (ws.map Wish.d)) ∧ Nx [some (.ref r), some (.ref p), some (.int a), z, some (.int ai), some (.int mn), some (.ref q)] (updW W10 q (.lst (ws.map Wish.d ++ [x.d]))) := by
          intro m' x W10 hm' hx e10
          have e := e9.trans e10
          refine ⟨by rw [e.2 q hqr, g3], hN _ _ ⟨ws ++ [x], e.1.upd hqr, by rw [updW_ne (Ne.symm hqp), e.2 p hpr]; exact g2, by simp [updW_same, -Wish.d], fun b h1 h2 h3 => by rw [updW_ne h3, e.2 b h1]; exact g4 b h1 h2 h3, ?_, by simp; omega, fun b hb => g7 b (List.mem_cons_of_mem _ hb), _, rfl⟩⟩
          intro y hy
          rcases List.mem_append.mp hy with z' | z'
          · exact g5 y z'
          · simp at z'; subst z'; exact hx.mono (Nat.le_refl _) hm'
        by_cases e8 : i8 = 11
        · simp [e8, -Wish.d]
          refine sp_l_wish_s e9.1 (by omega) (by omega) fun x W10 hx e10 => ?_
          obtain ⟨k1, k2⟩ := key mn x W10 (Nat.le_refl _) hx e10
          simp [k1, -Wish.d]
          exact ⟨by omega, k2⟩
        · simp [e8, -Wish.d]
          refine sp_l_wish_s e9.1 (by omega) (by omega) fun x W10 hx e10 => ?_
          obtain ⟨k1, k2⟩ := key a x W10 (by omega) hx e10
          simp [k1, -Wish.d]
          exact ⟨by omega, k2⟩
    split
    · split
      · refine ⟨E6.1, fun i7 W7 hi7 hi7' e7 q hq => ?_⟩
        have ec : (4 + if i7 = 3 then (1 : Int) else 0) = ((if i7 = 3 then (5 : Nat) else 4 : Nat) : Int) := by split <;> rfl
        rw [ec]
        refine ⟨by split <;> omega, tail _ W7 q (by split <;> omega) (E6.step hpr e7) hq⟩
      · intro q hq
        exact ⟨by omega, tail mn W6 q hm0 E6 hq⟩
    · intro q hq
      exact ⟨by omega, tail mn W6 q hm0 E6 hq⟩
  · rintro a as ρ W2 Nx ⟨sh, E2, hsh, hl, k, z, rfl⟩ hN
    refine ⟨trivial, ?_⟩
    simp at hl
    simp [E2.1, sizeLine]
    intro i3 W3 hi3 hi3' e3
    simp [e3.1]
    intro i4 W4 hi4 hi4' e4
    simp [e4.1]
    intro i5 W5 hi5 hi5' e5
    obtain ⟨rm, hr0, hr9, k5⟩ : ∃ rm : Int, 0 ≤ rm ∧ rm ≤ 9 ∧ getI [D.int (1 + i3), D.int 9, D.int i4] i5 = some (.int rm) := by
      have : i5 = 0 ∨ i5 = 1 ∨ i5 = 2 := by omega
      rcases this with rfl | rfl | rfl
      · exact ⟨1 + i3, by omega, by omega, by simp⟩
      · exact ⟨9, by omega, by omega, by simp⟩
      · exact ⟨i4, by omega, by omega, by simp⟩
    have E5 := ((E2.step hpr e3).step hpr e4).step hpr e5
    simp [k5, e5.1, E5.2.1, ty_list_ref _ E5.2.1, sizeLine]
    refine ⟨by omega, ?_⟩
    intro i6 W6 hi6 hi6' e6
    simp [e6.1]
    intro i7 W7 hi7 hi7' e7
    have E7 := (E5.step hpr e6).step hpr e7
    simp [E7.2.1]
    refine ⟨by omega, ?_⟩
    refine hN _ _ ⟨sh ++ [⟨rm, i6, if i7 = 8 then 1 else 0⟩], ?_, ?_, ?_, _, _, rfl⟩
    · have := E7.upd (c' := .lst ((sh ++ [(⟨rm, i6, if i7 = 8 then 1 else 0⟩ : Shelf)]).map Shelf.d)) hpr
      simpa using this
    · intro x hx
      rcases List.mem_append.mp hx with z | z
      · exact hsh x z
      · simp at z; subst z
        exact ⟨hi6, by show i6 ≤ rm; omega, hr9, by show (if i7 = 8 then (1 : Int) else 0) = 0 ∨ _ = 1; split <;> simp⟩
    · simp; omega
/-! ### the store made -/
theorem sp_l_store_s {C : CC} {r : Addr} {W : Wd} {Q : QD} {E : XD} (h1 : RowOk W r) (h : ∀ (s : Store) W', s.Ok → RowE r W W' → Q s.t W') : sp_l_store C [.ref r] W Q E := ⟨r, rfl, h1, h⟩
def sp_l_made (C : CC) : SpD := fun ds W Q _ => ∃ s : Store, ds = [s.t] ∧ s.Ok ∧ Q (s.o C) W
def td_l_made (C : CC) : TSd :=
  (tsRet (tdFrzI (tdMake C.st (sp_Store_init C) (tdCons (tdCB dList (tdCons (tdOp dIx (tdVar 0) (tdC (.int 0))) tdNil)) (tdCons (tdOp dIx (tdVar 0) (tdC (.int 1))) (tdCons (tdCB dList (tdCons (tdOp dIx (tdVar 0) (tdC (.int 2))) tdNil)) tdNil))))))
theorem q_l_made (C : CC) : Q_ (sp_l_made C) (td_l_made C) 1 := by
  rintro ds W Qd Ed ⟨s, rfl, hs, h⟩
  simp [td_l_made, -Shelf.d, -Wish.d]
  intro a ha
  refine ⟨a, s, _, _, rfl, Or.inl rfl, Or.inl rfl, hs, updW_same, ?_⟩
  refine ⟨rfl, ?_⟩
  simp [updW_same, updW_updW, delW_updW ha, -Shelf.d, -Wish.d]
  exact ⟨_, _, ⟨rfl, rfl⟩, h⟩
theorem goodsF_eq (s : Store) (sh : Int) : ∀ (dn : List Int) (m : Int), goodsF s sh dn m = m - (dn.filter fun n => decide ((wishAt s n).shelf = sh) && decide ((wishAt s n).bring = false)).length + (dn.filter fun n => decide ((wishAt s n).shelf = sh) && decide ((wishAt s n).bring = true)).length
  | [], m => by simp [goodsF]
  | a :: dn, m => by
    have ih := goodsF_eq s sh dn
    unfold goodsF at ih ⊢
    rw [List.foldl_cons, ih]
    by_cases e1 : (wishAt s a).shelf = sh
    · cases e2 : (wishAt s a).bring
      · simp [e1, e2]; omega
      · simp [e1, e2]; omega
    · simp [e1]
def sp_l_goods (C : CC) : SpD := fun ds W Q _ => ∃ (s : Store) (sh : Int) (dn : List Int), ds = [s.t, .int sh, .tup (dn.map .int)] ∧ InS s sh ∧ (∀ n ∈ dn, InW s n) ∧ dn.length ≤ 100000 ∧ Q (.int (goods s sh dn)) W
def td_l_goods (C : CC) : TSd :=
  (tsSeq (tsAsg (tdLc (tiSeq (tdVar 2)) (.name 4) (tdAnd (tdB (tdOp dEq (tdOp dIx (tdOp dIx (tdOp dIx (tdVar 0) (tdC (.int 2))) (tdVar 4)) (tdC (.int 1))) (tdVar 1))) (tdB (tdOp dEq (tdOp dIx (tdOp dIx (tdOp dIx (tdVar 0) (tdC (.int 2))) (tdVar 4)) (tdC (.int 0))) (tdC (.str "fetch"))))) (tdVar 4) [4]) (.name 3))
    (tsSeq (tsAsg (tdLc (tiSeq (tdVar 2)) (.name 4) (tdAnd (tdB (tdOp dEq (tdOp dIx (tdOp dIx (tdOp dIx (tdVar 0) (tdC (.int 2))) (tdVar 4)) (tdC (.int 1))) (tdVar 1))) (tdB (tdOp dEq (tdOp dIx (tdOp dIx (tdOp dIx (tdVar 0) (tdC (.int 2))) (tdVar 4)) (tdC (.int 0))) (tdC (.str "bring"))))) (tdVar 4) [4]) (.name 5))
    (tsRet (tdOp dAdd (tdOp dSub (tdOp dIx (tdOp dIx (tdOp dIx (tdVar 0) (tdC (.int 0))) (tdVar 1)) (tdC (.int 1))) (tdCB dLen (tdCons (tdVar 3) tdNil))) (tdCB dLen (tdCons (tdVar 5) tdNil))))))
theorem q_l_goods (C : CC) : Q_ (sp_l_goods C) (td_l_goods C) 6 := by
  rintro ds W Qd Ed ⟨s, sh, dn, rfl, hs, hn, hl, h⟩
  simp [td_l_goods, sizeLine]
  refine ⟨by omega, ?_⟩
  refine lcL_pure (α := Int) D.int (fun n => decide ((wishAt s n).shelf = sh) && decide ((wishAt s n).bring = false)) D.int _ trivial ?_ [] ?_
  · intro a ha Kt Kf hk
    simp [wishAt_get (hn a ha)]
    by_cases e1 : (wishAt s a).shelf = sh <;> simp [e1] at hk ⊢
    · exact hk
    · exact hk
  · simp
    refine ⟨by omega, ?_⟩
    refine lcL_pure (α := Int) D.int (fun n => decide ((wishAt s n).shelf = sh) && decide ((wishAt s n).bring = true)) D.int _ trivial ?_ [] ?_
    · intro a ha Kt Kf hk
      simp [wishAt_get (hn a ha)]
      by_cases e1 : (wishAt s a).shelf = sh <;> simp [e1] at hk ⊢
      · exact hk
      · exact hk
    · simp [shelfAt_get hs]
      unfold goods at h
      rw [goodsF_eq] at h
      simpa using h
@[simp] theorem sp_l_goods_s {C : CC} {s : Store} {sh : Int} {dn : List Int} {W : Wd} {Q : QD} {E : XD} : sp_l_goods C [s.t, .int sh, .tup (dn.map .int)] W Q E = (InS s sh ∧ (∀ n ∈ dn, InW s n) ∧ dn.length ≤ 100000 ∧ Q (.int (goods s sh dn)) W) := by
  simp [sp_l_goods, and_assoc]
theorem State.Ok.len {s : Store} {x : State} (h : x.Ok s) : x.done.length ≤ s.wishes.length := sorted_len 0 h.so fun a ha => by have := h.dn a ha; unfold InW at this; omega
def sp_l_bar_of_wish (C : CC) : SpD := fun ds W Q _ => ∃ (s : Store) (x : State) (n : Int), ds = [s.t, x.d, .int n] ∧ s.Ok ∧ x.Ok s ∧ InW s n ∧ Q (barD (barWish s x n)) W
theorem find_filter {α : Type} (p : α → Bool) (l : List α) : l.find? p = (l.filter p).head? := List.head?_filter.symm
def td_l_bar_of_wish (C : CC) : TSd :=
  (tsSeq (tsAsg (tdVar 1) (.tup [3, 4, 5, 6]))
    (tsSeq (tsAsg (tdOp dIx (tdOp dIx (tdVar 0) (tdC (.int 2))) (tdVar 2)) (.tup [7, 8, 9, 10, 11, 12]))
    (tsSeq (tsIf (tdB (tdOp (dIn false) (tdVar 2) (tdVar 4))) (tsRet (tdTup (tdCons (tdC (.str "done")) (tdCons (tdVar 2) tdNil)))) tsNext)
    (tsSeq (tsAsg (tdLc (tiSeq (tdVar 12)) (.name 14) (tdB (tdOp (dIn true) (tdVar 14) (tdVar 4))) (tdVar 14) [14]) (.name 13))
    (tsSeq (tsIf (tdB (tdOp dNe (tdVar 13) (tdLst tdNil))) (tsRet (tdTup (tdCons (tdC (.str "after")) (tdCons (tdOp dIx (tdVar 13) (tdC (.int 0))) tdNil)))) tsNext)
    (tsSeq (tsIf (tdB (tdOp (dIn true) (tdVar 10) (tdVar 5))) (tsRet (tdTup (tdCons (tdC (.str "crew")) (tdCons (tdVar 10) tdNil)))) tsNext)
    (tsSeq (tsAsg (tdOp dIx (tdDisp ["left", "right", "any"] (tdCons (tdLst (tdCons (tdVar 8) tdNil)) (tdCons (tdLst (tdCons (tdOp dAdd (tdVar 8) (tdC (.int 1))) tdNil)) (tdCons (tdLst (tdCons (tdVar 8) (tdCons (tdOp dAdd (tdVar 8) (tdC (.int 1))) tdNil))) tdNil)))) (tdVar 9)) (.name 15))
    (tsSeq (tsIf (tdB (tdOp (dIn true) (tdVar 3) (tdVar 15))) (tsRet (tdTup (tdCons (tdC (.str "aisle")) (tdCons (tdVar 3) tdNil)))) tsNext)
    (tsSeq (tsAsg (tdCall (sp_l_goods C) (tdCons (tdVar 0) (tdCons (tdVar 8) (tdCons (tdVar 4) tdNil)))) (.name 16))
    (tsSeq (tsIf (tdB (tdOp dEq (tdVar 7) (tdC (.str "fetch")))) (tsRet (tdIf (tdB (tdOp dLe (tdVar 16) (tdC (.int 0)))) (tdTup (tdCons (tdC (.str "empty")) (tdCons (tdVar 8) tdNil))) (tdC .non))) tsNext)
    (tsRet (tdIf (tdB (tdOp dGe (tdVar 16) (tdOp dIx (tdOp dIx (tdOp dIx (tdVar 0) (tdC (.int 0))) (tdVar 8)) (tdC (.int 0))))) (tdTup (tdCons (tdC (.str "full")) (tdCons (tdVar 8) tdNil))) (tdC .non)))))))))))))
theorem q_l_bar_of_wish (C : CC) : Q_ (sp_l_bar_of_wish C) (td_l_bar_of_wish C) 17 := by
  rintro ds W Qd Ed ⟨s, x, n, rfl, hs, hx, hn, h⟩
  unfold barWish at h
  have hw := hs.wish hn
  have hal : (wishAt s n).after.length ≤ 5 := by
    have := sorted_len 0 hw.so (n := s.wishes.length) (fun a ha => by have := hw.af a ha; omega)
    have := hs.m5
    omega
  have hdl := hx.len
  have h5 := hs.m5
  have hsh := hs.inS hn
  simp [td_l_bar_of_wish, wishAt_get hn, sizeLine]
  by_cases e1 : n ∈ x.done
  · simp [e1] at h ⊢; exact h
  · simp [e1] at h ⊢
    refine ⟨by omega, ?_⟩
    refine lcL_pure (α := Int) D.int (fun a => !decide (a ∈ x.done)) D.int _ trivial ?_ [] ?_
    · intro a ha Kt Kf hk
      simp at hk ⊢
      by_cases e3 : a ∈ x.done <;> simp [e3] at hk ⊢ <;> exact hk
    · rw [find_filter] at h
      cases e4 : (wishAt s n).after.filter (fun a => !decide (a ∈ x.done)) with
      | cons a l =>
        rw [e4] at h
        simp at h ⊢
        exact h
      | nil =>
        rw [e4] at h
        simp at h ⊢
        by_cases e5 : (wishAt s n).crew ∈ x.inside
        · simp [e5] at h ⊢
          have eg : (goods s (wishAt s n).shelf x.done < 1) = (goods s (wishAt s n).shelf x.done ≤ 0) := by simp only [eq_iff_iff]; omega
          have rest : ∀ {A B : Prop}, Qd (barD (if (wishAt s n).bring = false ∧ goods s (wishAt s n).shelf x.done ≤ 0 then some ("empty", (wishAt s n).shelf) else
              if (wishAt s n).bring = true ∧ (shelfAt s (wishAt s n).shelf).room ≤ goods s (wishAt s n).shelf x.done then some ("full", (wishAt s n).shelf) else none)) W →
              (if (wishAt s n).bring = true then if (shelfAt s (wishAt s n).shelf).room ≤ goods s (wishAt s n).shelf x.done then Qd (D.tup [D.str (Str.ofString "full"), D.int (wishAt s n).shelf]) W else Qd D.non W
              else if goods s (wishAt s n).shelf x.done ≤ 0 then Qd (D.tup [D.str (Str.ofString "empty"), D.int (wishAt s n).shelf]) W else Qd D.non W) := by
            intro A B h
            cases e5 : (wishAt s n).bring with
            | false => simp [e5] at h ⊢; split <;> simp_all
            | true => simp [e5] at h ⊢; split <;> simp_all
          cases e6 : (wishAt s n).side
          · simp [reaches, e6, Side.s, List.lookup, hsh, hx.dn, shelfAt_get hsh, eg] at h ⊢
            split
            · rename_i e7; rw [if_pos e7] at h
              exact ⟨hx.dn, by omega, rest (A := True) (B := True) h⟩
            · rename_i e7; rw [if_neg e7] at h; exact h
          · simp [reaches, e6, Side.s, List.lookup, hsh, hx.dn, shelfAt_get hsh, eg] at h ⊢
            split
            · rename_i e7; rw [if_pos e7] at h
              exact ⟨hx.dn, by omega, rest (A := True) (B := True) h⟩
            · rename_i e7; rw [if_neg e7] at h; exact h
          · simp [reaches, e6, Side.s, List.lookup, hsh, hx.dn, shelfAt_get hsh, eg] at h ⊢
            split
            · rename_i e7; rw [if_neg (by omega)] at h
              exact ⟨hx.dn, by omega, rest (A := True) (B := True) h⟩
            · rename_i e7; rw [if_pos (by omega)] at h; exact h
        · simp [e5] at h ⊢
          exact h
@[simp] theorem sp_l_bar_of_wish_s {C : CC} {s : Store} {a k b : Int} {dn ins : List Int} {W : Wd} {Q : QD} {E : XD} : sp_l_bar_of_wish C [s.t, .tup [.int a, .tup (dn.map .int), .tup (ins.map .int), .int k], .int b] W Q E = (s.Ok ∧ State.Ok s ⟨a, dn, ins, k⟩ ∧ InW s b ∧ Q (barD (barWish s ⟨a, dn, ins, k⟩ b)) W) := by
  simp only [sp_l_bar_of_wish, eq_iff_iff]
  constructor
  · rintro ⟨s', ⟨a', d', i', k'⟩, b', e, q⟩
    simp at e
    obtain ⟨rfl, ⟨rfl, rfl, rfl, rfl⟩, rfl⟩ := e
    exact q
  · intro q; exact ⟨s, ⟨a, dn, ins, k⟩, b, rfl, q⟩
def sp_l_bar (C : CC) : SpD := fun ds W Q _ => ∃ (s : Store) (x : State) (t : Step), ds = [s.t, x.d, t.d] ∧ s.Ok ∧ x.Ok s ∧ t.Ok s ∧ Q (barD (bar s x t)) W
def td_l_bar (C : CC) : TSd :=
  (tsSeq (tsAsg (tdVar 1) (.tup [3, 4, 5, 6]))
    (tsSeq (tsIf (tdB (tdOp dEq (tdOp dIx (tdVar 2) (tdC (.int 0))) (tdC (.str "wait")))) (tsRet (tdC .non)) tsNext)
    (tsSeq (tsIf (tdB (tdOp dEq (tdOp dIx (tdVar 2) (tdC (.int 0))) (tdC (.str "shift")))) (tsSeq (tsAsg (tdOp dSub (tdVar 3) (tdCB dInt (tdCons (tdOp dEq (tdOp dIx (tdVar 2) (tdC (.int 1))) (tdUn dNeg (tdC (.int 1)))) tdNil))) (.name 7))
    (tsSeq (tsIf (tdOr (tdB (tdOp dLt (tdVar 7) (tdC (.int 0)))) (tdB (tdOp dGe (tdVar 7) (tdCB dLen (tdCons (tdOp dIx (tdVar 0) (tdC (.int 0))) tdNil))))) (tsRet (tdTup (tdCons (tdC (.str "end")) (tdCons (tdVar 3) tdNil)))) tsNext)
    (tsSeq (tsIf (tdB (tdOp dEq (tdOp dIx (tdOp dIx (tdOp dIx (tdVar 0) (tdC (.int 0))) (tdVar 7)) (tdC (.int 2))) (tdC (.int 1)))) (tsRet (tdTup (tdCons (tdC (.str "sticks")) (tdCons (tdVar 7) tdNil)))) tsNext)
    (tsSeq (tsIf (tdB (tdOp dNe (tdVar 5) (tdTup tdNil))) (tsRet (tdTup (tdCons (tdC (.str "in")) (tdCons (tdCB dMinI (tdCons (tdVar 5) tdNil)) tdNil)))) tsNext)
    (tsRet (tdIf (tdB (tdOp dGt (tdVar 6) (tdC (.int 0)))) (tdTup (tdCons (tdC (.str "kept")) (tdCons (tdVar 6) tdNil))) (tdC .non))))))) tsNext)
    (tsSeq (tsIf (tdB (tdOp dEq (tdOp dIx (tdVar 2) (tdC (.int 0))) (tdC (.str "in")))) (tsRet (tdIf (tdB (tdOp (dIn false) (tdOp dIx (tdVar 2) (tdC (.int 1))) (tdVar 5))) (tdTup (tdCons (tdC (.str "is")) (tdCons (tdOp dIx (tdVar 2) (tdC (.int 1))) tdNil))) (tdC .non))) tsNext)
    (tsSeq (tsIf (tdB (tdOp dEq (tdOp dIx (tdVar 2) (tdC (.int 0))) (tdC (.str "out")))) (tsRet (tdIf (tdB (tdOp (dIn false) (tdOp dIx (tdVar 2) (tdC (.int 1))) (tdVar 5))) (tdC .non) (tdTup (tdCons (tdC (.str "isnt")) (tdCons (tdOp dIx (tdVar 2) (tdC (.int 1))) tdNil))))) tsNext)
    (tsRet (tdCall (sp_l_bar_of_wish C) (tdCons (tdVar 0) (tdCons (tdVar 1) (tdCons (tdOp dIx (tdVar 2) (tdC (.int 1))) tdNil))))))))))
theorem q_l_bar (C : CC) : Q_ (sp_l_bar C) (td_l_bar C) 8 := by
  rintro ds W Qd Ed ⟨s, x, t, rfl, hs, hx, ht, h⟩
  have ht := ht.ok
  have key : ∀ z : Int, (0 ≤ z ∧ z < s.shelves.length) → getI s.shelves z = some (shelfAt s z) := fun z hz => shelfAt_get hz
  cases t with
  | wait => simpa [td_l_bar, bar] using h
  | fin i => simp [td_l_bar, sizeLine] at ht ⊢; exact ⟨hs, hx, ht, h⟩
  | ent i =>
    simp [td_l_bar, sizeLine, bar] at h ⊢
    by_cases e : i ∈ x.inside <;> simp [e] at h ⊢ <;> exact h
  | out i =>
    simp [td_l_bar, sizeLine, bar] at h ⊢
    by_cases e : i ∈ x.inside <;> simp [e] at h ⊢ <;> exact h
  | shift i =>
    simp only [bar, barShift] at h
    have tail : ∀ z, getI s.shelves z = some (shelfAt s z) → Qd (barD (if (shelfAt s z).sticks = 1 then some ("sticks", z) else match x.inside with
        | c :: _ => some ("in", c)
        | [] => if 0 < x.kept then some ("kept", x.kept) else none)) W →
        (if (shelfAt s z).sticks = 1 then Qd (D.tup [D.str (Str.ofString "sticks"), D.int z]) W else if x.inside = [] then if 0 < x.kept then Qd (D.tup [D.str (Str.ofString "kept"), D.int x.kept]) W else Qd D.non W
          else 0 < x.inside.length ∧ ∀ (m : Int), m ∈ x.inside → (∀ y, y ∈ x.inside → m ≤ y) → Qd (D.tup [D.str (Str.ofString "in"), D.int m]) W) := by
      intro z hz h
      split
      · rename_i h2; rw [if_pos h2] at h; exact h
      · rename_i h2; rw [if_neg h2] at h
        rcases hx.ins with e | e | e | e
        · simp [e] at h ⊢
          split <;> simp_all
        · simp [e] at h ⊢
          exact h
        · simp [e] at h ⊢
          exact h
        · simp [e] at h ⊢
          exact h
    rcases ht with rfl | rfl
    · simp [td_l_bar, sizeLine] at h ⊢
      split
      · rename_i h1
        rw [if_neg (by omega)] at h
        exact h
      · rename_i h1
        split
        · rename_i h2
          rw [if_neg (by omega)] at h
          exact h
        · rename_i h2
          rw [if_pos (by omega)] at h
          simp [key (x.aisle - 1) (by omega)]
          exact tail _ (key (x.aisle - 1) (by omega)) h
    · simp [td_l_bar, sizeLine] at h ⊢
      split
      · rename_i h1
        rw [if_neg (by omega)] at h
        exact h
      · rename_i h1
        split
        · rename_i h2
          rw [if_neg (by omega)] at h
          exact h
        · rename_i h2
          rw [if_pos (by omega)] at h
          simp [key x.aisle (by omega)]
          exact tail _ (key x.aisle (by omega)) h
theorem sp_l_bar_s {C : CC} {s : Store} {a k : Int} {dn ins : List Int} {t : Step} {W : Wd} {Q : QD} {E : XD} : sp_l_bar C [s.t, .tup [.int a, .tup (dn.map .int), .tup (ins.map .int), .int k], t.d] W Q E = (s.Ok ∧ State.Ok s ⟨a, dn, ins, k⟩ ∧ t.Ok s ∧ Q (barD (bar s ⟨a, dn, ins, k⟩ t)) W) := by
  simp only [sp_l_bar, eq_iff_iff]
  constructor
  · rintro ⟨s', ⟨a', d', i', k'⟩, b', e, q⟩
    simp [-Step.d] at e
    obtain ⟨rfl, ⟨rfl, rfl, rfl, rfl⟩, e⟩ := e
    rw [step_inj] at e; subst e
    exact q
  · intro q; exact ⟨s, ⟨a, dn, ins, k⟩, t, rfl, q⟩
def sp_l_every (C : CC) : SpD := fun ds W Q _ => ∃ (s : Store), ds = [s.t] ∧ s.Ok ∧ Q (.lst ((every s).map Step.d)) W
def td_l_every (C : CC) : TSd :=
  (tsSeq (tsAsg (tdLst (tdCons (tdTup (tdCons (tdC (.str "wait")) tdNil)) (tdCons (tdTup (tdCons (tdC (.str "shift")) (tdCons (tdUn dNeg (tdC (.int 1))) tdNil))) (tdCons (tdTup (tdCons (tdC (.str "shift")) (tdCons (tdC (.int 1)) tdNil))) (tdCons (tdTup (tdCons (tdC (.str "in")) (tdCons (tdC (.int 0)) tdNil))) (tdCons (tdTup (tdCons (tdC (.str "in")) (tdCons (tdC (.int 1)) tdNil))) (tdCons (tdTup (tdCons (tdC (.str "out")) (tdCons (tdC (.int 0)) tdNil))) (tdCons (tdTup (tdCons (tdC (.str "out")) (tdCons (tdC (.int 1)) tdNil))) tdNil)))))))) (.name 1))
    (tsRet (tdOp dAdd (tdVar 1) (tdLc (tiRange1 (tdCB dLen (tdCons (tdOp dIx (tdVar 0) (tdC (.int 2))) tdNil))) (.name 2) tdYes (tdTup (tdCons (tdC (.str "do")) (tdCons (tdVar 2) tdNil))) [2]))))
theorem q_l_every (C : CC) : Q_ (sp_l_every C) (td_l_every C) 3 := by
  rintro ds W Qd Ed ⟨s, rfl, hs, h⟩
  have h5 := hs.m5
  simp [td_l_every, sizeLine]
  refine ⟨by omega, by omega, ?_⟩
  refine lcL_pure (α := Nat) (fun i => .int (i : Nat)) (fun _ => true) (fun i => Step.d (.fin i)) _ trivial ?_ [] ?_
  · intro a _ Kt Kf hk
    simpa [sizeLine] using hk
  · simp
    refine ⟨by omega, ?_⟩
    have e2 := every_d s
    simp only [List.cons_append, List.nil_append] at e2
    rw [e2]
    exact h
@[simp] theorem sp_l_every_s {C : CC} {s : Store} {W : Wd} {Q : QD} {E : XD} : sp_l_every C [s.t] W Q E = (s.Ok ∧ Q (.lst ((every s).map Step.d)) W) := by simp [sp_l_every, -Step.d]
def sp_l_steps (C : CC) : SpD := fun ds W Q _ => ∃ (s : Store) (x : State), ds = [s.t, x.d] ∧ s.Ok ∧ x.Ok s ∧ Q (.lst ((stepsAt s x).map Step.d)) W
def td_l_steps (C : CC) : TSd :=
  (tsRet (tdLc (tiSeq (tdCall (sp_l_every C) (tdCons (tdVar 0) tdNil))) (.name 2) (tdB (tdOp (dIs false) (tdCall (sp_l_bar C) (tdCons (tdVar 0) (tdCons (tdVar 1) (tdCons (tdVar 2) tdNil)))) (tdC .non))) (tdVar 2) [2]))
theorem q_l_steps (C : CC) : Q_ (sp_l_steps C) (td_l_steps C) 3 := by
  rintro ds W Qd Ed ⟨s, x, rfl, hs, hx, h⟩
  have h5 := hs.m5
  simp [td_l_steps, sizeLine, -Step.d, every_len]
  refine ⟨hs, by omega, ?_⟩
  refine lcL_pure (α := Step) Step.d (fun t => (bar s x t).isNone) Step.d _ trivial ?_ [] ?_
  · intro t ht Kt Kf hk
    simp [-Step.d]
    rw [sp_l_bar_s]
    refine ⟨hs, hx, every_ok hs t ht, ?_⟩
    simp only [barD_isNon]
    exact hk
  · simpa [stepsAt] using h
def sp_l_begin (C : CC) : SpD := fun ds W Q _ => ∃ (s : Store), ds = [s.t] ∧ Q (begin_ s).d W
def td_l_begin (C : CC) : TSd :=
  (tsRet (tdTup (tdCons (tdOp dIx (tdVar 0) (tdC (.int 1))) (tdCons (tdTup tdNil) (tdCons (tdTup tdNil) (tdCons (tdC (.int 0)) tdNil))))))
theorem q_l_begin (C : CC) : Q_ (sp_l_begin C) (td_l_begin C) 1 := by
  rintro ds W Qd Ed ⟨s, rfl, h⟩
  simpa [td_l_begin, begin_, sizeLine] using h
@[simp] theorem sp_l_made_s {C : CC} {s : Store} {W : Wd} {Q : QD} {E : XD} : sp_l_made C [s.t] W Q E = (s.Ok ∧ Q (s.o C) W) := by simp [sp_l_made]
@[simp] theorem sp_l_begin_s {C : CC} {s : Store} {W : Wd} {Q : QD} {E : XD} : sp_l_begin C [s.t] W Q E = Q (begin_ s).d W := by simp [sp_l_begin]
theorem sp_l_steps_s {C : CC} {s : Store} {a k : Int} {dn ins : List Int} {W : Wd} {Q : QD} {E : XD} (h1 : s.Ok) (h2 : State.Ok s ⟨a, dn, ins, k⟩) (h3 : Q (.lst ((stepsAt s ⟨a, dn, ins, k⟩).map Step.d)) W) : sp_l_steps C [s.t, .tup [.int a, .tup (dn.map .int), .tup (ins.map .int), .int k]] W Q E := ⟨s, ⟨a, dn, ins, k⟩, rfl, h1, h2, h3⟩
end AI

/-! SM3: what is behind a step; plans. -/
namespace AI
open PySem PySem.Spec PyProof.Rows L2 DL

def behind (s : Store) (x : State) : Step → State
  | .wait => ⟨x.aisle, x.done, x.inside, max 0 (x.kept - 1)⟩
  | .shift i => ⟨x.aisle + i, x.done, x.inside, max 0 (x.kept - 1)⟩
  | .ent i => ⟨x.aisle, x.done, sortI (x.inside ++ [i]), max 0 (x.kept - 1)⟩
  | .out i => ⟨x.aisle, x.done, x.inside.filter (fun c => !decide (c = i)), max 0 (x.kept - 1)⟩
  | .fin n => ⟨x.aisle, sortI (x.done ++ [n]), x.inside, max (max 0 (x.kept - 1)) (wishAt s n).keep⟩
theorem State.Ok.inL {s : Store} {x : State} (h : x.Ok s) : x.inside.length ≤ 2 := by
  rcases h.ins with e | e | e | e <;> simp [e]
def sp_behind (C : CC) : SpD := fun ds W Q _ => ∃ (s : Store) (x : State) (t : Step), ds = [s.o C, x.d, t.d] ∧ s.Ok ∧ x.Ok s ∧ t.Ok s ∧ Q (behind s x t).d W
def td_behind (C : CC) : TSd :=
  (tsSeq (tsAsg (tdVar 1) (.tup [3, 4, 5, 6]))
    (tsSeq (tsAsg (tdCB dMax2 (tdCons (tdC (.int 0)) (tdCons (tdOp dSub (tdVar 6) (tdC (.int 1))) tdNil))) (.name 6))
    (tsSeq (tsIf (tdB (tdOp dEq (tdOp dIx (tdVar 2) (tdC (.int 0))) (tdC (.str "shift")))) (tsAsg (tdOp dAdd (tdVar 3) (tdOp dIx (tdVar 2) (tdC (.int 1)))) (.name 3)) (tsIf (tdB (tdOp dEq (tdOp dIx (tdVar 2) (tdC (.int 0))) (tdC (.str "in")))) (tsAsg (tdCB dTuple (tdCons (tdCB dSortedI (tdCons (tdOp dAdd (tdVar 5) (tdTup (tdCons (tdOp dIx (tdVar 2) (tdC (.int 1))) tdNil))) tdNil)) tdNil)) (.name 5)) (tsIf (tdB (tdOp dEq (tdOp dIx (tdVar 2) (tdC (.int 0))) (tdC (.str "out")))) (tsAsg (tdCB dTuple (tdCons (tdLc (tiSeq (tdVar 5)) (.name 7) (tdB (tdOp dNe (tdVar 7) (tdOp dIx (tdVar 2) (tdC (.int 1))))) (tdVar 7) [7]) tdNil)) (.name 5)) (tsIf (tdB (tdOp dEq (tdOp dIx (tdVar 2) (tdC (.int 0))) (tdC (.str "do")))) (tsSeq (tsAsg (tdCB dTuple (tdCons (tdCB dSortedI (tdCons (tdOp dAdd (tdVar 4) (tdTup (tdCons (tdOp dIx (tdVar 2) (tdC (.int 1))) tdNil))) tdNil)) tdNil)) (.name 4))
    (tsAsg (tdCB dMax2 (tdCons (tdVar 6) (tdCons (tdOp dIx (tdOp dIx (tdFld C.st "kept_wishes" (tdVar 0)) (tdOp dIx (tdVar 2) (tdC (.int 1)))) (tdC (.int 4))) tdNil))) (.name 6))) tsNext))))
    (tsRet (tdTup (tdCons (tdVar 3) (tdCons (tdVar 4) (tdCons (tdVar 5) (tdCons (tdVar 6) tdNil)))))))))
theorem q_behind (C : CC) : Q_ (sp_behind C) (td_behind C) 8 := by
  rintro ds W Qd Ed ⟨s, x, t, rfl, hs, hx, ht, h⟩
  have ht := ht.ok
  have h1 := hx.inL
  have h2 := hx.len
  have h3 := hs.m5
  cases t with
  | wait => simpa [td_behind, behind, sizeLine] using h
  | shift i => simpa [td_behind, behind, sizeLine] using h
  | ent i =>
    simp [td_behind, behind, sizeLine] at h ⊢
    refine ⟨by omega, x.inside ++ [i], by simp, by simp; omega, h⟩
  | out i =>
    simp [td_behind, behind, sizeLine] at h ⊢
    refine ⟨by omega, ?_⟩
    refine lcL_pure (α := Int) D.int (fun c => !decide (c = i)) D.int _ trivial ?_ [] ?_
    · intro a ha Kt Kf hk
      simp at hk ⊢
      by_cases e : a = i <;> simp [e] at hk ⊢ <;> exact hk
    · simp [sizeLine]; exact h
  | fin n =>
    simp [td_behind, behind, sizeLine] at ht h ⊢
    refine ⟨by omega, x.done ++ [n], by simp, by simp; omega, ?_⟩
    simp [wishAt_get ht, sizeLine]
    exact h
def sp_l_behind (C : CC) : SpD := fun ds W Q _ => ∃ (s : Store) (x : State) (t : Step), ds = [s.t, x.d, t.d] ∧ s.Ok ∧ x.Ok s ∧ t.Ok s ∧ Q (behind s x t).d W
def td_l_behind (C : CC) : TSd :=
  (tsSeq (tsAsg (tdVar 1) (.tup [3, 4, 5, 6]))
    (tsSeq (tsAsg (tdOp dIx (tdLst (tdCons (tdC (.int 0)) (tdCons (tdC (.int 0)) (tdCons (tdC (.int 1)) (tdCons (tdC (.int 2)) tdNil))))) (tdVar 6)) (.name 6))
    (tsSeq (tsIf (tdB (tdOp dEq (tdOp dIx (tdVar 2) (tdC (.int 0))) (tdC (.str "shift")))) (tsRet (tdTup (tdCons (tdOp dAdd (tdVar 3) (tdOp dIx (tdVar 2) (tdC (.int 1)))) (tdCons (tdVar 4) (tdCons (tdVar 5) (tdCons (tdVar 6) tdNil)))))) tsNext)
    (tsSeq (tsIf (tdB (tdOp dEq (tdOp dIx (tdVar 2) (tdC (.int 0))) (tdC (.str "in")))) (tsRet (tdTup (tdCons (tdVar 3) (tdCons (tdVar 4) (tdCons (tdCB dTuple (tdCons (tdCB dSortedI (tdCons (tdOp dAdd (tdVar 5) (tdTup (tdCons (tdOp dIx (tdVar 2) (tdC (.int 1))) tdNil))) tdNil)) tdNil)) (tdCons (tdVar 6) tdNil)))))) tsNext)
    (tsSeq (tsIf (tdB (tdOp dEq (tdOp dIx (tdVar 2) (tdC (.int 0))) (tdC (.str "out")))) (tsRet (tdTup (tdCons (tdVar 3) (tdCons (tdVar 4) (tdCons (tdCB dTuple (tdCons (tdLc (tiSeq (tdVar 5)) (.name 7) (tdB (tdOp dNe (tdVar 7) (tdOp dIx (tdVar 2) (tdC (.int 1))))) (tdVar 7) [7]) tdNil)) (tdCons (tdVar 6) tdNil)))))) tsNext)
    (tsSeq (tsIf (tdB (tdOp dEq (tdOp dIx (tdVar 2) (tdC (.int 0))) (tdC (.str "do")))) (tsRet (tdTup (tdCons (tdVar 3) (tdCons (tdCB dTuple (tdCons (tdCB dSortedI (tdCons (tdOp dAdd (tdVar 4) (tdTup (tdCons (tdOp dIx (tdVar 2) (tdC (.int 1))) tdNil))) tdNil)) tdNil)) (tdCons (tdVar 5) (tdCons (tdCB dMax2 (tdCons (tdVar 6) (tdCons (tdOp dIx (tdOp dIx (tdOp dIx (tdVar 0) (tdC (.int 2))) (tdOp dIx (tdVar 2) (tdC (.int 1)))) (tdC (.int 4))) tdNil))) tdNil)))))) tsNext)
    (tsRet (tdTup (tdCons (tdVar 3) (tdCons (tdVar 4) (tdCons (tdVar 5) (tdCons (tdVar 6) tdNil))))))))))))
theorem q_l_behind (C : CC) : Q_ (sp_l_behind C) (td_l_behind C) 8 := by
  rintro ds W Qd Ed ⟨s, x, t, rfl, hs, hx, ht, h⟩
  have ht := ht.ok
  have h1 := hx.inL
  have h2 := hx.len
  have h3 := hs.m5
  have hk : getI [D.int 0, D.int 0, D.int 1, D.int 2] x.kept = some (.int (max 0 (x.kept - 1))) := by
    have := hx.k0
    have := hx.k3
    have : x.kept = 0 ∨ x.kept = 1 ∨ x.kept = 2 ∨ x.kept = 3 := by omega
    rcases this with e | e | e | e <;> simp [e] <;> decide
  cases t with
  | wait => simpa [td_l_behind, behind, sizeLine, hk] using h
  | shift i => simpa [td_l_behind, behind, sizeLine, hk] using h
  | ent i =>
    simp [td_l_behind, behind, sizeLine, hk] at h ⊢
    refine ⟨by omega, x.inside ++ [i], by simp, by simp; omega, h⟩
  | out i =>
    simp [td_l_behind, behind, sizeLine, hk] at h ⊢
    refine ⟨by omega, ?_⟩
    refine lcL_pure (α := Int) D.int (fun c => !decide (c = i)) D.int _ trivial ?_ [] ?_
    · intro a ha Kt Kf hk
      simp at hk ⊢
      by_cases e : a = i <;> simp [e] at hk ⊢ <;> exact hk
    · simp [sizeLine]; exact h
  | fin n =>
    simp [td_l_behind, behind, sizeLine, hk] at ht h ⊢
    refine ⟨by omega, x.done ++ [n], by simp, by simp; omega, ?_⟩
    simp [wishAt_get ht, sizeLine]
    exact h
theorem sp_behind_s {C : CC} {s : Store} {a k : Int} {dn ins : List Int} {t : Step} {W : Wd} {Q : QD} {E : XD} : sp_behind C [s.o C, .tup [.int a, .tup (dn.map .int), .tup (ins.map .int), .int k], t.d] W Q E = (s.Ok ∧ State.Ok s ⟨a, dn, ins, k⟩ ∧ t.Ok s ∧ Q (behind s ⟨a, dn, ins, k⟩ t).d W) := by
  simp only [sp_behind, eq_iff_iff]
  constructor
  · rintro ⟨s', ⟨a', d', i', k'⟩, b', e, q⟩
    simp [-Step.d] at e
    obtain ⟨rfl, ⟨rfl, rfl, rfl, rfl⟩, e⟩ := e
    rw [step_inj] at e; subst e
    exact q
  · intro q; exact ⟨s, ⟨a, dn, ins, k⟩, t, rfl, q⟩
theorem sp_l_behind_s {C : CC} {s : Store} {a k : Int} {dn ins : List Int} {t : Step} {W : Wd} {Q : QD} {E : XD} : sp_l_behind C [s.t, .tup [.int a, .tup (dn.map .int), .tup (ins.map .int), .int k], t.d] W Q E = (s.Ok ∧ State.Ok s ⟨a, dn, ins, k⟩ ∧ t.Ok s ∧ Q (behind s ⟨a, dn, ins, k⟩ t).d W) := by
  simp only [sp_l_behind, eq_iff_iff]
  constructor
  · rintro ⟨s', ⟨a', d', i', k'⟩, b', e, q⟩
    simp [-Step.d] at e
    obtain ⟨rfl, ⟨rfl, rfl, rfl, rfl⟩, e⟩ := e
    rw [step_inj] at e; subst e
    exact q
  · intro q; exact ⟨s, ⟨a, dn, ins, k⟩, t, rfl, q⟩
/-! ### what is behind a step that nothing bars is a state -/
theorem sortI_mem {l : List Int} {a : Int} : a ∈ sortI l ↔ a ∈ l := (sortI_perm l).mem_iff
theorem sortI_lt {l : List Int} {a : Int} (h : l.Pairwise (· < ·)) (ha : a ∉ l) : (sortI (l ++ [a])).Pairwise (· < ·) := by
  have nd : (sortI (l ++ [a])).Nodup := by
    rw [(sortI_perm _).nodup_iff]
    rw [List.nodup_append]
    refine ⟨h.imp fun h e => by omega, by simp, fun b hb c hc => ?_⟩
    simp at hc; subst hc
    rintro rfl; exact ha hb
  have so := sortI_sorted (l ++ [a])
  exact List.Pairwise.imp₂ (fun {a b} h1 h2 => by omega) so nd
theorem behind_ok {s : Store} {x : State} {t : Step} (hs : s.Ok) (hx : x.Ok s) (ht : t.Ok s) (hb : bar s x t = none) : (behind s x t).Ok s := by
  have ht := ht.ok
  have k0 := hx.k0
  have k3 := hx.k3
  cases t with
  | wait => exact ⟨hx.dn, hx.so, hx.ins, by show (0 : Int) ≤ max 0 (x.kept - 1); omega, by show max 0 (x.kept - 1) ≤ 3; omega⟩
  | shift i => exact ⟨hx.dn, hx.so, hx.ins, by show (0 : Int) ≤ max 0 (x.kept - 1); omega, by show max 0 (x.kept - 1) ≤ 3; omega⟩
  | ent i =>
    refine ⟨hx.dn, hx.so, ?_, by show (0 : Int) ≤ max 0 (x.kept - 1); omega, by show max 0 (x.kept - 1) ≤ 3; omega⟩
    simp only [bar] at hb
    split at hb
    · cases hb
    · rename_i hn
      show sortI (x.inside ++ [i]) = [] ∨ sortI (x.inside ++ [i]) = [0] ∨ sortI (x.inside ++ [i]) = [1] ∨ sortI (x.inside ++ [i]) = [0, 1]
      rcases ht with rfl | rfl
      · rcases hx.ins with e | e | e | e <;> simp [e] at hn ⊢ <;> decide
      · rcases hx.ins with e | e | e | e <;> simp [e] at hn ⊢ <;> decide
  | out i =>
    refine ⟨hx.dn, hx.so, ?_, by show (0 : Int) ≤ max 0 (x.kept - 1); omega, by show max 0 (x.kept - 1) ≤ 3; omega⟩
    show x.inside.filter (fun c => !decide (c = i)) = [] ∨ x.inside.filter (fun c => !decide (c = i)) = [0] ∨ x.inside.filter (fun c => !decide (c = i)) = [1] ∨ x.inside.filter (fun c => !decide (c = i)) = [0, 1]
    rcases ht with rfl | rfl
    · rcases hx.ins with e | e | e | e <;> simp [e]
    · rcases hx.ins with e | e | e | e <;> simp [e]
  | fin n =>
    have hk := (hs.wish ht).k1
    have hk0 := (hs.wish ht).k0
    simp only [bar, barWish] at hb
    split at hb
    · cases hb
    · rename_i hn
      refine ⟨fun m hm => ?_, sortI_lt hx.so hn, hx.ins, by show (0 : Int) ≤ max (max 0 (x.kept - 1)) (wishAt s n).keep; omega, by show max (max 0 (x.kept - 1)) (wishAt s n).keep ≤ 3; omega⟩
      have := sortI_mem.mp hm
      rcases List.mem_append.mp this with z | z
      · exact hx.dn m z
      · simp at z; subst z; exact ht
theorem begin_ok (s : Store) : (begin_ s).Ok s := ⟨by simp [begin_], by simp [begin_], .inl rfl, by simp [begin_], by simp [begin_]⟩

/-! ### plans -/
/-- all states of a plan; none where a step is barred -/
def walk_ (s : Store) : State → List Step → Option (List State)
  | x, [] => some [x]
  | x, t :: ts => if bar s x t = none then (walk_ s (behind s x t) ts).map (x :: ·) else none
/-- the state behind a plan -/
def last_ (s : Store) : State → List Step → State
  | x, [] => x
  | x, t :: ts => last_ s (behind s x t) ts
def free (s : Store) : State → List Step → Prop
  | _, [] => True
  | x, t :: ts => bar s x t = none ∧ t.Ok s ∧ free s (behind s x t) ts
def states (s : Store) : State → List Step → List State
  | x, [] => [x]
  | x, t :: ts => x :: states s (behind s x t) ts
theorem states_snoc (s : Store) : ∀ (x : State) (ts : List Step) (t : Step), states s x (ts ++ [t]) = states s x ts ++ [behind s (last_ s x ts) t]
  | x, [], t => rfl
  | x, u :: ts, t => by simp [states, last_, states_snoc s (behind s x u) ts t]
theorem last_snoc (s : Store) : ∀ (x : State) (ts : List Step) (t : Step), last_ s x (ts ++ [t]) = behind s (last_ s x ts) t
  | x, [], t => rfl
  | x, u :: ts, t => by simp [last_, last_snoc s (behind s x u) ts t]
theorem free_snoc (s : Store) : ∀ (x : State) (ts : List Step) (t : Step), free s x (ts ++ [t]) ↔ free s x ts ∧ bar s (last_ s x ts) t = none ∧ t.Ok s
  | x, [], t => by simp [free, last_]
  | x, u :: ts, t => by simp only [List.cons_append, free, last_, free_snoc s (behind s x u) ts t]; constructor <;> (intro h; simp_all)
theorem states_len (s : Store) : ∀ (x : State) (ts : List Step), (states s x ts).length = ts.length + 1
  | x, [] => rfl
  | x, t :: ts => by simp [states, states_len s (behind s x t) ts]
theorem states_split (s : Store) : ∀ (x : State) (ts : List Step), ∃ l, states s x ts = l ++ [last_ s x ts]
  | x, [] => ⟨[], rfl⟩
  | x, t :: ts => by
    obtain ⟨l, e⟩ := states_split s (behind s x t) ts
    exact ⟨x :: l, by simp [states, last_, e]⟩
theorem last_ok {s : Store} (hs : s.Ok) : ∀ {x : State} {ts : List Step}, x.Ok s → free s x ts → (last_ s x ts).Ok s
  | x, [], hx, _ => hx
  | x, t :: ts, hx, h => by
    have := last_ok hs (x := behind s x t) (ts := ts) (behind_ok hs hx h.2.1 h.1) h.2.2
    simpa only [last_] using this
theorem free_take {s : Store} : ∀ {x : State} {ts : List Step} (n : Nat), free s x ts → free s x (ts.take n)
  | x, [], n, h => by simpa using h
  | x, t :: ts, 0, h => trivial
  | x, t :: ts, n + 1, h => ⟨h.1, h.2.1, free_take n h.2.2⟩
theorem free_at {s : Store} : ∀ {x : State} {ts : List Step} {n : Nat} {t : Step}, free s x ts → ts[n]? = some t → bar s (last_ s x (ts.take n)) t = none ∧ t.Ok s
  | x, [], n, t, h, e => by simp at e
  | x, u :: ts, 0, t, h, e => by simp at e; subst e; exact ⟨h.1, h.2.1⟩
  | x, u :: ts, n + 1, t, h, e => free_at (x := behind s x u) (n := n) h.2.2 (by simpa using e)
def sp_gone (C : CC) : SpD := fun ds W Q _ => ∃ (s : Store) (x : State) (d : D) (ts : List Step), ds = [s.o C, x.d, d] ∧ isL W d (ts.map Step.d) ∧ s.Ok ∧ x.Ok s ∧ ts.length ≤ 100000 ∧ free s x ts ∧ ∀ p, W p = none → Q (.ref p) (updW W p (.lst ((states s x ts).map State.d)))
def td_gone (C : CC) : TSd :=
  (tsSeq (tsAsg (tdLstM (tdCons (tdVar 1) tdNil)) (.name 3))
    (tsSeq (tsFor (tiRange1 (tdCB dLen (tdCons (tdVar 2) tdNil))) (.name 4) (tsSeq (tsAsg (tdCall (sp_bar_of C) (tdCons (tdVar 0) (tdCons (tdOp dIx (tdVar 3) (tdUn dNeg (tdC (.int 1)))) (tdCons (tdOp dIx (tdVar 2) (tdVar 4)) tdNil)))) (.name 5))
    (tsSeq (tsIf (tdB (tdOp (dIs true) (tdVar 5) (tdC .non))) tsNever tsNext)
    (tsDrop (tdBM ty_append dAppend (tdVar 3) (tdCons (tdCall (sp_behind C) (tdCons (tdVar 0) (tdCons (tdOp dIx (tdVar 3) (tdUn dNeg (tdC (.int 1)))) (tdCons (tdOp dIx (tdVar 2) (tdVar 4)) tdNil)))) tdNil))))))
    (tsRet (tdVar 3))))
theorem q_gone (C : CC) : Q_ (sp_gone C) (td_gone C) 6 := by
  rintro ds W Qd Ed ⟨s, x, d, ts, rfl, hd, hs, hx, hl, hf, h⟩
  simp [td_gone, sizeLine, -State.d, -Step.d]
  intro p hp
  have hd' : ∀ c, isL (updW W p c) d (ts.map Step.d) := fun c => hd.upd hp
  simp [(hd' _).len, -State.d, -Step.d]
  refine ⟨by omega, ?_⟩
  refine forL_inv (α := Nat) (fun i => .int (i : Nat)) (fun as ρ W' => ∃ n, n + as.length = ts.length ∧ as = List.range' n as.length ∧ W' = updW W p (.lst ((states s x (ts.take n)).map State.d)) ∧ ∃ a b, ρ = [some (s.o C), some x.d, some d, some (.ref p), a, b]) ?_ ?_ _ _ _ ⟨0, by simp, by simp [List.range_eq_range'], by simp [states], _, _, rfl⟩
  · rintro ρ W' ⟨n, hn, _, rfl, a, b, rfl⟩
    refine ⟨trivial, ?_⟩
    simp at hn
    subst hn
    simp [-State.d]
    exact h p hp
  · rintro k as ρ W' Nx ⟨n, hn, hr, rfl, a, b, rfl⟩ hN
    refine ⟨trivial, ?_⟩
    simp only [List.length_cons, List.range'_succ, List.cons.injEq] at hr hn
    obtain ⟨rfl, hr⟩ := hr
    have hkt : k < ts.length := by omega
    obtain ⟨l, el⟩ := states_split s x (ts.take k)
    obtain ⟨hb, hok⟩ := free_at hf (List.getElem?_eq_getElem hkt)
    have hlo := last_ok hs hx (free_take k hf)
    have hg : getI ((states s x (ts.take k)).map State.d) (-1) = some (last_ s x (ts.take k)).d := by rw [el, List.map_append]; exact getI_last _ _
    simp [updW_same, (hd' _).ix, hg, getI_nat, hkt, -State.d, -Step.d]
    simp only [State.d]
    rw [sp_bar_of_s]
    refine ⟨hs, hlo, hok, ?_⟩
    rw [hb]
    simp [updW_same, (hd' _).ix, hg, getI_nat, hkt, ty_list_ref _ updW_same, updW_updW, -State.d, -Step.d]
    simp only [State.d]
    rw [sp_behind_s]
    refine ⟨hs, hlo, hok, ?_⟩
    simp [updW_same, updW_updW, -State.d, -Step.d, sizeLine, states_len]
    refine ⟨by omega, hN _ _ ⟨k + 1, by omega, hr, ?_, _, _, rfl⟩⟩
    have et : ts.take (k + 1) = ts.take k ++ [ts[k]] := by rw [List.take_succ, List.getElem?_eq_getElem hkt]; rfl
    rw [et, states_snoc, List.map_append]
    rfl
theorem sp_gone_s {C : CC} {s : Store} {a k : Int} {dn ins : List Int} {d : D} {ts : List Step} {W : Wd} {Q : QD} {E : XD} (hd : isL W d (ts.map Step.d)) (hs : s.Ok) (hx : State.Ok s ⟨a, dn, ins, k⟩) (hl : ts.length ≤ 100000) (hf : free s ⟨a, dn, ins, k⟩ ts)
    (h : ∀ p, W p = none → Q (.ref p) (updW W p (.lst ((states s ⟨a, dn, ins, k⟩ ts).map State.d)))) : sp_gone C [s.o C, .tup [.int a, .tup (dn.map .int), .tup (ins.map .int), .int k], d] W Q E := ⟨s, ⟨a, dn, ins, k⟩, d, ts, rfl, hd, hs, hx, hl, hf, h⟩
def sp_played (C : CC) : SpD := fun ds W Q _ => ∃ (s : Store) (d : D) (ts : List Step), ds = [s.o C, d] ∧ isL W d (ts.map Step.d) ∧ s.Ok ∧ ts.length ≤ 100000 ∧ free s (begin_ s) ts ∧ ∀ p, W p = none → Q (.ref p) (updW W p (.lst ((states s (begin_ s) ts).map State.d)))
theorem free_mem {s : Store} : ∀ {x : State} {ts : List Step}, free s x ts → ∀ t ∈ ts, t.Ok s
  | x, [], _, t, ht => by simp at ht
  | x, u :: ts, h, t, ht => by
    rcases List.mem_cons.mp ht with e | e
    · rw [e]; exact h.2.1
    · exact free_mem h.2.2 t e
def td_played (C : CC) : TSd :=
  (tsSeq (tsFor (tiSeq (tdVar 1)) (.name 2) (tsDrop (tdCall (sp_need_step C) (tdCons (tdVar 0) (tdCons (tdVar 2) tdNil)))))
    (tsRet (tdCall (sp_gone C) (tdCons (tdVar 0) (tdCons (tdCall (sp_begin C) (tdCons (tdVar 0) tdNil)) (tdCons (tdVar 1) tdNil))))))
theorem q_played (C : CC) : Q_ (sp_played C) (td_played C) 3 := by
  rintro ds W Qd Ed ⟨s, d, ts, rfl, hd, hs, hl, hf, h⟩
  have hm := hs.m5
  simp only [td_played, tsSeq, tsFor]
  refine hd.seq (by simp) ?_
  refine forL_inv (α := Step) Step.d (fun as ρ W' => W' = W ∧ (∀ t ∈ as, Step.Ok s t) ∧ ∃ a, ρ = [some (s.o C), some d, a]) ?_ ?_ _ _ _ ⟨rfl, free_mem hf, _, rfl⟩
  · rintro ρ W' ⟨rfl, _, a, rfl⟩
    refine ⟨hd.gl, ?_⟩
    simp [-State.d]
    exact sp_gone_s hd hs (begin_ok s) hl hf h
  · rintro t as ρ W' Nx ⟨rfl, ht, a, rfl⟩ hN
    refine ⟨hd.gl, ?_⟩
    simp [-Step.d]
    exact sp_need_step_s (ht t List.mem_cons_self) (by omega) (hN _ _ ⟨rfl, fun u hu => ht u (List.mem_cons_of_mem _ hu), _, rfl⟩)
end AI

/-! SR1: ways to an end, the least of them; states that are come to. Plain Lean. -/
namespace AI
open PySem PySem.Spec PyProof.Rows L2 DL
instance : DecidableEq State := fun a b => decidable_of_iff (a.aisle = b.aisle ∧ a.done = b.done ∧ a.inside = b.inside ∧ a.kept = b.kept) (by cases a; cases b; simp)
def Step.c : Step → Nat × Int
  | .wait => (0, 0)
  | .shift i => (1, i)
  | .ent i => (2, i)
  | .out i => (3, i)
  | .fin i => (4, i)
instance : DecidableEq Step := fun a b => decidable_of_iff (a.c = b.c) (by cases a <;> cases b <;> simp [Step.c])
def sh : Step → Int
  | .shift _ => 1
  | _ => 0
theorem sh_01 (t : Step) : sh t = 0 ∨ sh t = 1 := by cases t <;> simp [sh]
def isEnd (s : Store) (x : State) : Bool := decide (x.done.length = s.wishes.length) && decide (x.inside = [])
def nexts (s : Store) (x : State) : List (Step × State) := (stepsAt s x).map fun t => (t, behind s x t)
theorem every_iff {s : Store} (t : Step) : t ∈ every s ↔ t.Ok s := by
  constructor
  · intro h
    simp only [every, List.mem_append, List.mem_cons, List.not_mem_nil, or_false, List.mem_map, List.mem_range] at h
    rcases h with (rfl | rfl | rfl | rfl | rfl | rfl | rfl) | ⟨k, hk, rfl⟩
    · exact ⟨trivial⟩
    · exact ⟨.inl rfl⟩
    · exact ⟨.inr rfl⟩
    · exact ⟨.inl rfl⟩
    · exact ⟨.inr rfl⟩
    · exact ⟨.inl rfl⟩
    · exact ⟨.inr rfl⟩
    · exact ⟨⟨by omega, by omega⟩⟩
  · rintro ⟨h⟩
    simp only [every, List.mem_append, List.mem_cons, List.not_mem_nil, or_false, List.mem_map, List.mem_range]
    cases t with
    | wait => simp
    | shift i => rcases h with rfl | rfl <;> simp
    | ent i => rcases h with rfl | rfl <;> simp
    | out i => rcases h with rfl | rfl <;> simp
    | fin i => exact .inr ⟨i.toNat, by have := h.1; have := h.2; omega, by rw [Int.toNat_of_nonneg h.1]⟩
theorem stepsAt_iff {s : Store} {x : State} {t : Step} : t ∈ stepsAt s x ↔ t.Ok s ∧ bar s x t = none := by
  unfold stepsAt
  rw [List.mem_filter, every_iff, Option.isNone_iff_eq_none]
/-- a state of the store, its aisle at the store -/
structure State.In (s : Store) (x : State) : Prop where
  ok : x.Ok s
  a0 : 0 ≤ x.aisle
  a1 : x.aisle ≤ s.shelves.length
theorem barShift_in {s : Store} {x : State} {i : Int} (h : barShift s x i = none) : 0 ≤ (if 0 < i then x.aisle else x.aisle - 1) ∧ (if 0 < i then x.aisle else x.aisle - 1) < s.shelves.length := by
  unfold barShift at h
  by_cases e : 0 ≤ (if 0 < i then x.aisle else x.aisle - 1) ∧ (if 0 < i then x.aisle else x.aisle - 1) < s.shelves.length
  · exact e
  · rw [if_neg e] at h; cases h
theorem behind_in {s : Store} {x : State} {t : Step} (hs : s.Ok) (hx : x.In s) (ht : t.Ok s) (hb : bar s x t = none) : (behind s x t).In s := by
  have key : 0 ≤ (behind s x t).aisle ∧ (behind s x t).aisle ≤ s.shelves.length := by
    cases t with
    | shift i =>
      have hi := barShift_in (i := i) hb
      have h := ht.ok
      simp only at h
      show 0 ≤ x.aisle + i ∧ x.aisle + i ≤ s.shelves.length
      have := hx.a0
      have := hx.a1
      rcases h with rfl | rfl
      · rw [if_neg (by omega)] at hi; omega
      · rw [if_pos (by omega)] at hi; omega
    | _ => exact ⟨hx.a0, hx.a1⟩
  exact ⟨behind_ok hs hx.ok ht hb, key.1, key.2⟩
theorem begin_in {s : Store} (hs : s.Ok) : (begin_ s).In s := ⟨begin_ok s, hs.a0, hs.a1⟩
theorem next_in {s : Store} {x : State} (hs : s.Ok) (hx : x.In s) {p : Step × State} (hp : p ∈ nexts s x) : p.2.In s ∧ p.1.Ok s ∧ bar s x p.1 = none ∧ p.2 = behind s x p.1 := by
  obtain ⟨t, ht, rfl⟩ := List.mem_map.mp hp
  obtain ⟨h1, h2⟩ := stepsAt_iff.mp ht
  exact ⟨behind_in hs hx h1 h2, h1, h2, rfl⟩
/-! ### come to -/
inductive Reach (s : Store) (x0 : State) : State → Prop
  | start : Reach s x0 x0
  | step {x : State} {p : Step × State} : Reach s x0 x → p ∈ nexts s x → Reach s x0 p.2
theorem Reach.in {s : Store} {x0 x : State} (hs : s.Ok) (h0 : x0.In s) (h : Reach s x0 x) : x.In s := by
  induction h with
  | start => exact h0
  | step _ hp ih => exact (next_in hs ih hp).1
theorem Reach.trans {s : Store} {x y z : State} (h : Reach s x y) (h' : Reach s y z) : Reach s x z := by
  induction h' with
  | start => exact h
  | step _ hp ih => exact .step ih hp
/-! ### ways to an end: shifts, steps -/
inductive Way (s : Store) : State → Int → Int → Prop
  | stop {x : State} : isEnd s x = true → Way s x 0 0
  | step {x : State} {p : Step × State} {a b : Int} : p ∈ nexts s x → Way s p.2 a b → Way s x (a + sh p.1) (b + 1)
theorem Way.nonneg {s : Store} {x : State} {a b : Int} (h : Way s x a b) : 0 ≤ a ∧ 0 ≤ b := by
  induction h with
  | stop => exact ⟨Int.le_refl _, Int.le_refl _⟩
  | @step x p a b _ _ ih => rcases sh_01 p.1 with e | e <;> rw [e] <;> omega
/-- (a, b) not after (c, d) -/
def le2 (v w : Int × Int) : Prop := v.1 < w.1 ∨ (v.1 = w.1 ∧ v.2 ≤ w.2)
def lt2 (v w : Int × Int) : Prop := v.1 < w.1 ∨ (v.1 = w.1 ∧ v.2 < w.2)
instance (v w : Int × Int) : Decidable (lt2 v w) := by unfold lt2; infer_instance
instance (v w : Int × Int) : Decidable (le2 v w) := by unfold le2; infer_instance
theorem not_lt2 {v w : Int × Int} : ¬ lt2 v w ↔ le2 w v := by unfold lt2 le2; omega
theorem le2_antisymm {v w : Int × Int} (h : le2 v w) (h' : le2 w v) : v = w := by
  obtain ⟨a, b⟩ := v; obtain ⟨c, d⟩ := w
  unfold le2 at h h'
  simp only [Prod.mk.injEq]
  simp only at h h'
  omega
theorem le2_trans {u v w : Int × Int} (h : le2 u v) (h' : le2 v w) : le2 u w := by unfold le2 at *; omega
theorem le2_refl (v : Int × Int) : le2 v v := .inr ⟨rfl, Int.le_refl _⟩
structure Best (s : Store) (x : State) (v : Int × Int) : Prop where
  way : Way s x v.1 v.2
  least : ∀ a b, Way s x a b → le2 v (a, b)
theorem Best.one {s : Store} {x : State} {v w : Int × Int} (h : Best s x v) (h' : Best s x w) : v = w := le2_antisymm (h.least _ _ h'.way) (h'.least _ _ h.way)
/-- what a table says is the least -/
def IsBest (s : Store) (x : State) (o : Option (Int × Int)) : Prop := match o with
  | some v => Best s x v
  | none => ∀ a b, ¬ Way s x a b
theorem IsBest.one {s : Store} {x : State} {o o' : Option (Int × Int)} (h : IsBest s x o) (h' : IsBest s x o') : o = o' := by
  cases o with
  | none =>
    cases o' with
    | none => rfl
    | some w => exact absurd h'.way (h _ _)
  | some v =>
    cases o' with
    | none => exact absurd h.way (h' _ _)
    | some w => rw [Best.one h h']
theorem best_end {s : Store} {x : State} (h : isEnd s x = true) : Best s x (0, 0) := ⟨.stop h, fun a b w => by
  obtain ⟨h1, h2⟩ := w.nonneg
  unfold le2; simp only; omega⟩
/-- a least way that isn't at its end goes on by a step behind which the rest is least -/
theorem Best.next {s : Store} {x : State} {v : Int × Int} (h : Best s x v) (hv : v ≠ (0, 0)) (f : State → Option (Int × Int)) (hf : ∀ p ∈ nexts s x, IsBest s p.2 (f p.2)) :
    ∃ p ∈ nexts s x, ∃ w, f p.2 = some w ∧ (w.1 + sh p.1, w.2 + 1) = v := by
  obtain ⟨a, b⟩ := v
  have hw := h.way
  simp only at hw
  cases hw with
  | stop => exact absurd rfl hv
  | @step _ p a' b' hp w =>
    refine ⟨p, hp, ?_⟩
    have hb := hf p hp
    cases e : f p.2 with
    | none => rw [e] at hb; exact absurd w (hb _ _)
    | some u =>
      rw [e] at hb
      refine ⟨u, rfl, ?_⟩
      have h1 := hb.least _ _ w
      have h2 := h.least _ _ (Way.step hp hb.way)
      apply le2_antisymm _ h2
      unfold le2 at h1 ⊢
      simp only at h1 ⊢
      omega
theorem Way.at0 {s : Store} {x : State} {a b : Int} (h : Way s x a b) (hb : b = 0) : isEnd s x = true := by
  cases h with
  | stop h => exact h
  | step hp w =>
    have := w.nonneg
    omega
theorem Best.at0 {s : Store} {x : State} (h : Best s x (0, 0)) : isEnd s x = true := h.way.at0 rfl
/-! ### tables that are gone over until nothing is less -/
abbrev Tab := State → Option (Int × Int)
def fput (f : Tab) (x : State) (w : Int × Int) : Tab := fun y => if y = x then some w else f y
def less (f : Tab) (x : State) (w : Int × Int) : Bool := match f x with
  | none => true
  | some v => decide (lt2 w v)
def by_ (v : Int × Int) (t : Step) : Int × Int := (v.1 + sh t, v.2 + 1)
/-- one step looked at -/
def relax1 (x : State) (g : Tab × Bool) (p : Step × State) : Tab × Bool := match g.1 p.2 with
  | none => g
  | some v => if less g.1 x (by_ v p.1) = true then (fput g.1 x (by_ v p.1), true) else g
def relax (s : Store) (g : Tab × Bool) (x : State) : Tab × Bool := (nexts s x).foldl (relax1 x) g
def pass (s : Store) (l : List State) (f : Tab) : Tab × Bool := l.foldl (relax s) (f, false)
/-- how values stand: none is above all -/
def leO (o o' : Option (Int × Int)) : Prop := match o, o' with
  | _, none => True
  | none, some _ => False
  | some v, some w => le2 v w
def ltO (o o' : Option (Int × Int)) : Prop := match o, o' with
  | some _, none => True
  | some v, some w => lt2 v w
  | none, _ => False
theorem leO_refl (o : Option (Int × Int)) : leO o o := by cases o <;> simp [leO, le2_refl]
theorem leO_trans {o o' o'' : Option (Int × Int)} (h : leO o o') (h' : leO o' o'') : leO o o'' := by
  cases o <;> cases o' <;> cases o'' <;> simp_all [leO]
  exact le2_trans h h'
theorem ltO_leO {o o' : Option (Int × Int)} (h : ltO o o') : leO o o' := by
  cases o <;> cases o' <;> simp_all [leO, ltO, le2, lt2]
  omega
theorem ltO_of_le_lt {o o' o'' : Option (Int × Int)} (h : leO o o') (h' : ltO o' o'') : ltO o o'' := by
  cases o <;> cases o' <;> cases o'' <;> simp_all [leO, ltO, le2, lt2]
  omega
theorem ltO_of_lt_le {o o' o'' : Option (Int × Int)} (h : ltO o o') (h' : leO o' o'') : ltO o o'' := by
  cases o <;> cases o' <;> cases o'' <;> simp_all [leO, ltO, le2, lt2]
  omega
theorem leO_eq_or {o o' : Option (Int × Int)} (h : leO o o') : o = o' ∨ ltO o o' := by
  cases o with
  | none => cases o' <;> simp_all [leO, ltO]
  | some v =>
    cases o' with
    | none => exact .inr trivial
    | some w =>
      by_cases e : lt2 v w
      · exact .inr e
      · exact .inl (by rw [le2_antisymm h (not_lt2.mp e)])
/-- g came of f: nothing is more; where it says so, something is less -/
structure Came (L : List State) (f : Tab) (g : Tab × Bool) : Prop where
  le : ∀ x, leO (g.1 x) (f x)
  lt : g.2 = true → ∃ x ∈ L, ltO (g.1 x) (f x)
theorem relax1_came {L : List State} {f : Tab} {g : Tab × Bool} {x : State} (hx : x ∈ L) (h : Came L f g) (p : Step × State) : Came L f (relax1 x g p) := by
  unfold relax1
  cases e : g.1 p.2 with
  | none => exact h
  | some v =>
    simp only
    split
    · rename_i hl
      have hlt : ltO (some (by_ v p.1)) (g.1 x) := by
        unfold less at hl
        cases e2 : g.1 x with
        | none => trivial
        | some w => rw [e2] at hl; simpa [ltO] using hl
      refine ⟨fun y => ?_, fun _ => ⟨x, hx, ?_⟩⟩
      · show leO (fput g.1 x _ y) (f y)
        unfold fput
        split
        · rename_i ey; subst ey; exact leO_trans (ltO_leO hlt) (h.le y)
        · exact h.le y
      · show ltO (fput g.1 x _ x) (f x)
        unfold fput
        rw [if_pos rfl]
        exact ltO_of_lt_le hlt (h.le x)
    · exact h
theorem relax_came {s : Store} {L : List State} {f : Tab} {x : State} (hx : x ∈ L) : ∀ (ps : List (Step × State)) {g : Tab × Bool}, Came L f g → Came L f (ps.foldl (relax1 x) g)
  | [], _, h => h
  | p :: ps, _, h => relax_came (s := s) hx ps (relax1_came hx h p)
theorem pass_came_aux {s : Store} {L : List State} {f : Tab} : ∀ (l : List State) {g : Tab × Bool}, (∀ x ∈ l, x ∈ L) → Came L f g → Came L f (l.foldl (relax s) g)
  | [], _, _, h => h
  | x :: l, _, hl, h => pass_came_aux l (fun y hy => hl y (List.mem_cons_of_mem _ hy)) (relax_came (s := s) (hl x List.mem_cons_self) (nexts s x) h)
theorem pass_came {s : Store} {l : List State} {f : Tab} : Came l f (pass s l f) := pass_came_aux l (fun _ h => h) ⟨fun _ => leO_refl _, fun h => by cases h⟩
/-- where nothing is less, nothing was to be done -/
def Still (s : Store) (f : Tab) (x : State) : Prop := ∀ p ∈ nexts s x, ∀ v, f p.2 = some v → ∃ w, f x = some w ∧ le2 w (by_ v p.1)
theorem relax1_true {x : State} {g : Tab × Bool} {p : Step × State} (h : g.2 = true) : (relax1 x g p).2 = true := by
  unfold relax1
  split
  · exact h
  · split
    · rfl
    · exact h
theorem relaxs_true {x : State} : ∀ (ps : List (Step × State)) {g : Tab × Bool}, g.2 = true → (ps.foldl (relax1 x) g).2 = true
  | [], _, h => h
  | p :: ps, _, h => relaxs_true ps (relax1_true h)
theorem passes_true {s : Store} : ∀ (l : List State) {g : Tab × Bool}, g.2 = true → (l.foldl (relax s) g).2 = true
  | [], _, h => h
  | x :: l, _, h => passes_true l (relaxs_true _ h)
theorem relaxs_still {x : State} : ∀ (ps : List (Step × State)) {f : Tab}, (ps.foldl (relax1 x) (f, false)).2 = false → (ps.foldl (relax1 x) (f, false)).1 = f ∧ ∀ p ∈ ps, ∀ v, f p.2 = some v → ∃ w, f x = some w ∧ le2 w (by_ v p.1)
  | [], f, _ => ⟨rfl, fun p hp => by cases hp⟩
  | p :: ps, f, h => by
    have hr : (relax1 x (f, false) p).2 = false := by
      cases e : (relax1 x (f, false) p).2 with
      | false => rfl
      | true => rw [List.foldl_cons, relaxs_true ps e] at h; cases h
    have e : relax1 x (f, false) p = (f, false) ∧ ∀ v, f p.2 = some v → ∃ w, f x = some w ∧ le2 w (by_ v p.1) := by
      unfold relax1 at hr ⊢
      simp only at hr ⊢
      cases e : f p.2 with
      | none => exact ⟨rfl, fun v hv => by cases hv⟩
      | some v =>
        rw [e] at hr
        simp only at hr ⊢
        by_cases hl : less f x (by_ v p.1) = true
        · rw [if_pos hl] at hr; cases hr
        · rw [if_neg hl]
          refine ⟨rfl, fun v' hv => ?_⟩
          cases hv
          unfold less at hl
          cases e2 : f x with
          | none => rw [e2] at hl; exact absurd rfl hl
          | some w => rw [e2] at hl; exact ⟨w, rfl, not_lt2.mp (by simpa using hl)⟩
    rw [List.foldl_cons, e.1] at h ⊢
    obtain ⟨h1, h2⟩ := relaxs_still ps h
    refine ⟨h1, fun q hq => ?_⟩
    rcases List.mem_cons.mp hq with rfl | hq
    · exact e.2
    · exact h2 q hq
theorem passes_still {s : Store} : ∀ (l : List State) {f : Tab}, (l.foldl (relax s) (f, false)).2 = false → (l.foldl (relax s) (f, false)).1 = f ∧ ∀ x ∈ l, Still s f x
  | [], f, _ => ⟨rfl, fun x hx => by cases hx⟩
  | x :: l, f, h => by
    rw [List.foldl_cons] at h ⊢
    have e : (relax s (f, false) x).2 = false := by
      cases e : (relax s (f, false) x).2 with
      | false => rfl
      | true => rw [passes_true l e] at h; cases h
    obtain ⟨e1, e2⟩ := relaxs_still (nexts s x) e
    have e3 : relax s (f, false) x = (f, false) := Prod.ext e1 e
    rw [e3] at h ⊢
    obtain ⟨h1, h2⟩ := passes_still l h
    refine ⟨h1, fun y hy => ?_⟩
    rcases List.mem_cons.mp hy with rfl | hy
    · exact e2
    · exact h2 y hy
/-- what stands in the table are ways -/
def Sound (s : Store) (f : Tab) : Prop := ∀ x v, f x = some v → Way s x v.1 v.2
theorem relax1_sound {s : Store} {x : State} {g : Tab × Bool} (h : Sound s g.1) {p : Step × State} (hp : p ∈ nexts s x) : Sound s (relax1 x g p).1 := by
  unfold relax1
  cases e : g.1 p.2 with
  | none => exact h
  | some v =>
    simp only
    split
    · intro y w hy
      simp only [fput] at hy
      split at hy
      · rename_i ey
        subst ey
        cases hy
        exact Way.step hp (h _ _ e)
      · exact h y w hy
    · exact h
theorem relaxs_sound {s : Store} {x : State} : ∀ (ps : List (Step × State)) {g : Tab × Bool}, (∀ p ∈ ps, p ∈ nexts s x) → Sound s g.1 → Sound s (ps.foldl (relax1 x) g).1
  | [], _, _, h => h
  | p :: ps, _, hp, h => relaxs_sound ps (fun q hq => hp q (List.mem_cons_of_mem _ hq)) (relax1_sound h (hp p List.mem_cons_self))
theorem pass_sound {s : Store} : ∀ (l : List State) {g : Tab × Bool}, Sound s g.1 → Sound s (l.foldl (relax s) g).1
  | [], _, h => h
  | x :: l, _, h => pass_sound l (relaxs_sound _ (fun _ hp => hp) h)
/-- ends stay at nought -/
def Ends0 (s : Store) (l : List State) (f : Tab) : Prop := ∀ x ∈ l, isEnd s x = true → ∃ v, f x = some v ∧ le2 v (0, 0)
theorem ends_le {s : Store} {l : List State} {f f' : Tab} (h : Ends0 s l f) (hle : ∀ x, leO (f' x) (f x)) : Ends0 s l f' := by
  intro x hx he
  obtain ⟨v, hv, h0⟩ := h x hx he
  have := hle x
  rw [hv] at this
  cases e : f' x with
  | none => rw [e] at this; exact this.elim
  | some w => rw [e] at this; exact ⟨w, rfl, le2_trans this h0⟩
/-- a table where nothing is less any more holds the least -/
theorem still_best {s : Store} {l : List State} {f : Tab} (hcl : ∀ x ∈ l, ∀ p ∈ nexts s x, p.2 ∈ l) (hS : Sound s f) (hE : Ends0 s l f) (hst : ∀ x ∈ l, Still s f x) : ∀ x ∈ l, IsBest s x (f x) := by
  have key : ∀ {x : State} {a b : Int}, Way s x a b → x ∈ l → ∃ w, f x = some w ∧ le2 w (a, b) := by
    intro x a b hw
    induction hw with
    | @stop x he =>
      intro hx
      exact hE x hx he
    | @step x p a b hp _ ih =>
      intro hx
      obtain ⟨w, hw, hle⟩ := ih (hcl x hx p hp)
      obtain ⟨u, hu, hle2⟩ := hst x hx p hp w hw
      refine ⟨u, hu, le2_trans hle2 ?_⟩
      unfold le2 by_ at *
      simp only at *
      omega
  intro x hx
  cases e : f x with
  | none =>
    intro a b hw
    obtain ⟨w, h, _⟩ := key hw hx
    rw [e] at h; cases h
  | some v =>
    refine ⟨hS x v e, fun a b hw => ?_⟩
    obtain ⟨w, h, hle⟩ := key hw hx
    rw [e] at h; cases h
    exact hle
end AI

/-! SR2: going over ends; going through all states; states in order. -/
namespace AI
open PySem PySem.Spec PyProof.Rows L2 DL
open PySem.W (dataLe alike keyToks AllAlike Sortable sortLe sortLe_total toks_eqv)
/-! ### it comes to an end -/
def valN : Option (Int × Int) → Nat × Nat × Nat
  | none => (1, 0, 0)
  | some (a, b) => (0, a.toNat, b.toNat)
abbrev lt3 : WellFoundedRelation (Nat × Nat × Nat) := Prod.lex Nat.lt_wfRel (Prod.lex Nat.lt_wfRel Nat.lt_wfRel)
def NonNeg (f : Tab) : Prop := ∀ x v, f x = some v → 0 ≤ v.1 ∧ 0 ≤ v.2
theorem Sound.nonneg {s : Store} {f : Tab} (h : Sound s f) : NonNeg f := fun x v e => (h x v e).nonneg
theorem valN_lt {o o' : Option (Int × Int)} (h : ltO o o') (h1 : ∀ v, o = some v → 0 ≤ v.1 ∧ 0 ≤ v.2) (h2 : ∀ v, o' = some v → 0 ≤ v.1 ∧ 0 ≤ v.2) : lt3.rel (valN o) (valN o') := by
  cases o with
  | none => exact h.elim
  | some v =>
    obtain ⟨a, b⟩ := v
    cases o' with
    | none => exact Prod.Lex.left _ _ (by decide : (0 : Nat) < 1)
    | some w =>
      obtain ⟨c, d⟩ := w
      have ha := h1 _ rfl
      have hc := h2 _ rfl
      simp only at ha hc
      have h : lt2 (a, b) (c, d) := h
      unfold lt2 at h
      simp only at h
      refine Prod.Lex.right _ ?_
      rcases h with h | ⟨rfl, h⟩
      · exact Prod.Lex.left _ _ (by show a.toNat < c.toNat; omega)
      · exact Prod.Lex.right _ (by show b.toNat < d.toNat; omega)
def Less (L : List State) (f' f : Tab) : Prop := NonNeg f' ∧ NonNeg f ∧ (∀ x, leO (f' x) (f x)) ∧ ∃ x ∈ L, ltO (f' x) (f x)
theorem less_wf : ∀ L : List State, WellFounded (Less L)
  | [] => ⟨fun f => ⟨f, fun g h => by obtain ⟨_, _, _, x, hx, _⟩ := h; cases hx⟩⟩
  | x :: L => by
    have ih := less_wf L
    refine Subrelation.wf (r := InvImage (Prod.Lex lt3.rel (Less L)) fun f : Tab => (valN (f x), f)) ?_ (InvImage.wf _ (Prod.lex lt3 ⟨Less L, ih⟩).wf)
    rintro f' f ⟨n1, n2, hle, y, hy, hlt⟩
    show Prod.Lex lt3.rel (Less L) (valN (f' x), f') (valN (f x), f)
    rcases leO_eq_or (hle x) with e | e
    · rw [e]
      refine Prod.Lex.right _ ⟨n1, n2, hle, y, ?_, hlt⟩
      rcases List.mem_cons.mp hy with rfl | hy
      · rw [e] at hlt
        cases hf : f y with
        | none => rw [hf] at hlt; exact hlt.elim
        | some v => rw [hf] at hlt; have : lt2 v v := hlt; unfold lt2 at this; omega
      · exact hy
    · exact Prod.Lex.left _ _ (valN_lt e (fun v hv => n1 x v hv) fun v hv => n2 x v hv)
/-! ### all states that are come to -/
def grow1 (f : List State) (p : Step × State) : List State := if p.2 ∈ f then f else f ++ [p.2]
structure Expl (s : Store) (x0 : State) (f : List State) (n : Nat) : Prop where
  nd : f.Nodup
  mem0 : x0 ∈ f
  rch : ∀ y ∈ f, Reach s x0 y
  cl : ∀ i < n, ∀ y, f[i]? = some y → ∀ p ∈ nexts s y, p.2 ∈ f
  le : n ≤ f.length
theorem expl0 (s : Store) (x0 : State) : Expl s x0 [x0] 0 := ⟨by simp, List.mem_singleton.mpr rfl, fun y hy => by rw [List.mem_singleton.mp hy]; exact .start, fun i hi => by omega, Nat.zero_le _⟩
theorem grow1_mem {f : List State} {p : Step × State} : p.2 ∈ grow1 f p := by
  unfold grow1
  split
  · assumption
  · simp
theorem grow1_sub {f : List State} {p : Step × State} {y : State} (h : y ∈ f) : y ∈ grow1 f p := by
  unfold grow1
  split
  · exact h
  · simp [h]
/-- one of the next states is put in -/
theorem Expl.grow {s : Store} {x0 x : State} {f : List State} {n : Nat} (h : Expl s x0 f n) (hx : x ∈ f) {p : Step × State} (hp : p ∈ nexts s x) : Expl s x0 (grow1 f p) n := by
  unfold grow1
  split
  · exact h
  · rename_i hn
    refine ⟨?_, by simp [h.mem0], fun y hy => ?_, fun i hi y hy q hq => ?_, by rw [List.length_append]; have := h.le; omega⟩
    · rw [List.nodup_append]
      exact ⟨h.nd, by simp, fun a ha b hb => by rw [List.mem_singleton.mp hb]; rintro rfl; exact hn ha⟩
    · rcases List.mem_append.mp hy with z | z
      · exact h.rch y z
      · rw [List.mem_singleton.mp z]; exact .step (h.rch x hx) hp
    · rw [List.getElem?_append_left (by have := h.le; omega)] at hy
      exact List.mem_append_left _ (h.cl i hi y hy q hq)
theorem Expl.next {s : Store} {x0 x : State} {f : List State} {n : Nat} (h : Expl s x0 f n) (hx : f[n]? = some x) (hc : ∀ p ∈ nexts s x, p.2 ∈ f) : Expl s x0 f (n + 1) := by
  refine ⟨h.nd, h.mem0, h.rch, fun i hi y hy => ?_, ?_⟩
  · by_cases e : i = n
    · subst e
      rw [hx] at hy; cases hy
      exact hc
    · exact h.cl i (by omega) y hy
  · have := (List.getElem?_eq_some_iff.mp hx).1; omega
/-- the states that are come to, each once -/
structure Found (s : Store) (x0 : State) (l : List State) : Prop where
  nd : l.Nodup
  mem : ∀ y, y ∈ l ↔ Reach s x0 y
theorem Expl.found {s : Store} {x0 : State} {f : List State} (h : Expl s x0 f f.length) : Found s x0 f := by
  refine ⟨h.nd, fun y => ⟨h.rch y, fun r => ?_⟩⟩
  induction r with
  | start => exact h.mem0
  | @step x p _ hp ih =>
    obtain ⟨i, hi, e⟩ := List.mem_iff_getElem.mp ih
    exact h.cl i hi x (by rw [List.getElem?_eq_getElem hi, e]) p hp
theorem Found.closed {s : Store} {x0 : State} {l : List State} (h : Found s x0 l) : ∀ x ∈ l, ∀ p ∈ nexts s x, p.2 ∈ l := fun x hx p hp => (h.mem _).mpr (.step ((h.mem x).mp hx) hp)
theorem Found.in {s : Store} {x0 : State} {l : List State} (h : Found s x0 l) (hs : s.Ok) (h0 : x0.In s) : ∀ x ∈ l, x.In s := fun x hx => ((h.mem x).mp hx).in hs h0
theorem Found.perm {s : Store} {x0 : State} {l l' : List State} (h : Found s x0 l) (h' : Found s x0 l') : l.Perm l' := (List.perm_ext_iff_of_nodup h.nd h'.nd).mpr fun y => (h.mem y).trans (h'.mem y).symm
/-! ### how many states there may be -/
def subs : List Int → List (List Int)
  | [] => [[]]
  | a :: l => subs l ++ (subs l).map (a :: ·)
theorem subs_len : ∀ l : List Int, (subs l).length = 2 ^ l.length
  | [] => rfl
  | a :: l => by simp [subs, subs_len l, Nat.pow_succ]; omega
theorem subs_nil : ∀ l : List Int, [] ∈ subs l
  | [] => by simp [subs]
  | a :: l => by simp [subs, subs_nil l]
theorem mem_subs : ∀ {l d : List Int}, l.Pairwise (· < ·) → d.Pairwise (· < ·) → (∀ x ∈ d, x ∈ l) → d ∈ subs l
  | [], [], _, _, _ => by simp [subs]
  | [], x :: d, _, _, h => by have := h x List.mem_cons_self; cases this
  | a :: l, [], _, _, _ => subs_nil _
  | a :: l, x :: d, hl, hd, h => by
    have hl' := List.pairwise_cons.mp hl
    have hd' := List.pairwise_cons.mp hd
    simp only [subs, List.mem_append, List.mem_map]
    by_cases e : x = a
    · subst e
      refine .inr ⟨d, mem_subs hl'.2 hd'.2 fun y hy => ?_, rfl⟩
      rcases List.mem_cons.mp (h y (List.mem_cons_of_mem _ hy)) with z | z
      · have := hd'.1 y hy; omega
      · exact z
    · have hx : x ∈ l := by
        rcases List.mem_cons.mp (h x List.mem_cons_self) with z | z
        · exact absurd z e
        · exact z
      refine .inl (mem_subs hl'.2 hd fun y hy => ?_)
      rcases List.mem_cons.mp (h y hy) with z | z
      · have ha := hl'.1 x hx
        rcases List.mem_cons.mp hy with q | q
        · exact absurd (q.symm.trans z) e
        · have := hd'.1 y q; omega
      · exact z
def allStates (s : Store) : List State := (List.range (s.shelves.length + 1)).flatMap fun a => (subs ((List.range s.wishes.length).map fun k => ((k : Nat) : Int))).flatMap fun d => [[], [0], [1], [0, 1]].flatMap fun i => [0, 1, 2, 3].map fun k => ⟨(a : Nat), d, i, k⟩
theorem flatMap_len {α β : Type} (f : α → List β) (k : Nat) : ∀ l : List α, (∀ a ∈ l, (f a).length = k) → (l.flatMap f).length = l.length * k
  | [], _ => by simp
  | a :: l, h => by
    rw [List.flatMap_cons, List.length_append, flatMap_len f k l (fun b hb => h b (List.mem_cons_of_mem _ hb)), h a List.mem_cons_self, List.length_cons, Nat.add_mul]
    omega
theorem allStates_len (s : Store) : (allStates s).length = (s.shelves.length + 1) * (2 ^ s.wishes.length * 16) := by
  unfold allStates
  rw [flatMap_len _ (2 ^ s.wishes.length * 16), List.length_range]
  intro a _
  rw [flatMap_len _ 16, subs_len]
  · simp
  · intro d _
    rw [flatMap_len _ 4]
    · rfl
    · intro i _; rfl
theorem mem_all {s : Store} {x : State} (h : x.In s) : x ∈ allStates s := by
  unfold allStates
  simp only [List.mem_flatMap, List.mem_map, List.mem_range]
  refine ⟨x.aisle.toNat, by have := h.a0; have := h.a1; omega, x.done, ?_, x.inside, ?_, x.kept, ?_, ?_⟩
  · refine mem_subs ?_ h.ok.so fun n hn => ?_
    · rw [List.pairwise_map]
      exact List.pairwise_lt_range.imp fun h => by omega
    · obtain ⟨h1, h2⟩ := h.ok.dn n hn
      exact List.mem_map.mpr ⟨n.toNat, List.mem_range.mpr (by omega), by omega⟩
  · rcases h.ok.ins with e | e | e | e <;> simp [e]
  · have := h.ok.k0; have := h.ok.k3
    simp only [List.mem_cons, List.not_mem_nil, or_false]; omega
  · cases x; have := h.a0; simp at this ⊢; omega
theorem pow5 : ∀ m : Nat, m ≤ 5 → 2 ^ m ≤ 32
  | 0, _ => by decide
  | 1, _ => by decide
  | 2, _ => by decide
  | 3, _ => by decide
  | 4, _ => by decide
  | 5, _ => by decide
  | n + 6, h => by omega
theorem many {s : Store} (hs : s.Ok) {l : List State} (nd : l.Nodup) (h : ∀ x ∈ l, x.In s) : l.length ≤ 3072 := by
  have h1 := nd.length_le_of_subset (l₂ := allStates s) fun x hx => mem_all (h x hx)
  rw [allStates_len] at h1
  have h2 := pow5 s.wishes.length hs.m5
  have h3 : (s.shelves.length + 1) * (2 ^ s.wishes.length * 16) ≤ 6 * (32 * 16) := Nat.mul_le_mul (by have := hs.n5; omega) (Nat.mul_le_mul h2 (Nat.le_refl _))
  omega
/-! ### the order of states -/
def leS : State → State → Bool := dataLe false fun x => toPy x.d
theorem leS_total (a b : State) : (leS a b || leS b a) = true := by
  rcases (sortLe_total (listOrd itemOrd) false fun x : State => keyToks (toPy x.d)).total a b with h | h
  · unfold leS dataLe; rw [h]; rfl
  · unfold leS dataLe; rw [h, Bool.or_true]
theorem leS_trans (a b c : State) (h : leS a b = true) (h' : leS b c = true) : leS a c = true := (sortLe_total (listOrd itemOrd) false fun x : State => keyToks (toPy x.d)).trans a b c h h'
theorem lex_pre_more : ∀ t : List (Int ⊕ List Nat), PyProof.Rows.lexLt itemOrd t (t ++ [.inl 0]) = true
  | [] => rfl
  | a :: t => by
    rw [List.cons_append, lex_self]
    exact lex_pre_more t
theorem toks_inj {x y : PyData} (h : alike x y = true) (e : keyToks x = keyToks y) : PyData.eqv x y = true := by
  cases q : PyData.eqv x y with
  | true => rfl
  | false =>
    have h1 := (toks_eqv x y h).2 q [] [.inl 0]
    rw [e, List.append_nil, lex_pre_more, lex_irrefl] at h1
    cases h1
theorem alike_ints : ∀ xs ys : List Int, PySem.W.alikeAll (toPyL (xs.map D.int)) (toPyL (ys.map D.int)) = true
  | [], _ => by simp [toPyL, PySem.W.alikeAll]
  | _ :: _, [] => by simp [toPyL, PySem.W.alikeAll]
  | x :: xs, y :: ys => by
    have := alike_ints xs ys
    simp only [List.map_cons, toPyL, toPy, PySem.W.alikeAll, alike, this, Bool.true_and]
theorem alike_state (x y : State) : alike (toPy x.d) (toPy y.d) = true := by
  simp [toPy, toPyL, alike, PySem.W.alikeAll, alike_ints]
theorem eqD_state (x y : State) : eqD x.d y.d = decide (x = y) := by
  obtain ⟨a, b, c, d⟩ := x
  obtain ⟨a', b', c', d'⟩ := y
  simp
  try (rw [Bool.eq_iff_iff]; simp)
theorem leS_antisymm {a b : State} (h : leS a b = true) (h' : leS b a = true) : a = b := by
  have e : keyToks (toPy a.d) = keyToks (toPy b.d) := by
    have h1 : (!PyProof.Rows.lexLt itemOrd (keyToks (toPy b.d)) (keyToks (toPy a.d))) = true := h
    have h2 : (!PyProof.Rows.lexLt itemOrd (keyToks (toPy a.d)) (keyToks (toPy b.d))) = true := h'
    rw [Bool.not_eq_true'] at h1 h2
    exact (listOrd itemOrd).total _ _ h2 h1
  have := toks_inj (alike_state a b) e
  have e2 := eqD_state a b
  unfold eqD at e2
  rw [this] at e2
  simpa using e2.symm
theorem sort_perm {l l' : List State} (h : l.Perm l') : l.mergeSort leS = l'.mergeSort leS := by
  refine List.Perm.eq_of_pairwise (le := fun a b => leS a b = true) (fun a b _ _ => leS_antisymm) (List.pairwise_mergeSort leS_trans leS_total l) (List.pairwise_mergeSort leS_trans leS_total l') ?_
  exact (List.mergeSort_perm l leS).trans (h.trans (List.mergeSort_perm l' leS).symm)
/-! ### what is told of a store -/
open Classical in
/-- the least (shifts, steps) to an end -/
noncomputable def bestO (s : Store) (x : State) : Option (Int × Int) := if h : ∃ o, IsBest s x o then Classical.choose h else none
theorem bestO_of {s : Store} {x : State} {o : Option (Int × Int)} (h : IsBest s x o) : bestO s x = o := by
  have hx : ∃ o, IsBest s x o := ⟨o, h⟩
  unfold bestO
  rw [dif_pos hx]
  exact (Classical.choose_spec hx).one h
open Classical in
/-- all states, rising -/
noncomputable def statesOf (s : Store) (x0 : State) : List State := if h : ∃ l, Found s x0 l then (Classical.choose h).mergeSort leS else []
theorem statesOf_of {s : Store} {x0 : State} {l : List State} (h : Found s x0 l) : l.mergeSort leS = statesOf s x0 := by
  have hx : ∃ l, Found s x0 l := ⟨l, h⟩
  unfold statesOf
  rw [dif_pos hx]
  exact sort_perm (h.perm (Classical.choose_spec hx))
noncomputable def paperOf (s : Store) (x0 : State) : List (State × Option Int) := (statesOf s x0).map fun x => (x, (bestO s x).map (·.1))
end AI

/-! SR3: states as keys, tables as dicts; the search's own: by, is_less, reckon. -/
namespace AI
open PySem PySem.Spec PyProof.Rows L2 DL
def State.key (x : State) : NK := .tup [.num x.aisle, .tup (x.done.map .num), .tup (x.inside.map .num), .num x.kept]
theorem dOfs_ints : ∀ l : List Int, dOfs (l.map .num) = l.map D.int
  | [] => rfl
  | a :: l => by simp only [List.map_cons, dOfs, dOf, dOfs_ints l]
theorem nkOfs_ints : ∀ l : List Int, nkOfs (l.map D.int) = some (l.map .num)
  | [] => rfl
  | a :: l => by simp only [List.map_cons, nkOfs, nkOf, nkOfs_ints l]
theorem depth_ints : ∀ l : List Int, NestedKey.depthAll (l.map .num) = 0
  | [] => rfl
  | a :: l => by simp [NestedKey.depthAll, NestedKey.depth, depth_ints l]
@[simp] theorem key_d (x : State) : dOf x.key = x.d := by
  simp only [State.key, dOf, dOfs, dOfs_ints, State.d]
theorem key_depth (x : State) : x.key.depth ≤ 8 := by
  simp only [State.key, NestedKey.depth, NestedKey.depthAll, depth_ints]; omega
theorem nums_inj {l m : List Int} (h : l.map NestedKey.num = m.map NestedKey.num) : l = m := map_inj (fun a b e => by injection e) h
theorem key_inj {x y : State} (h : x.key = y.key) : x = y := by
  obtain ⟨a, b, c, d⟩ := x
  obtain ⟨a', b', c', d'⟩ := y
  simp only [State.key] at h
  injection h with h
  injection h with h1 h
  injection h with h2 h
  injection h with h3 h
  injection h with h4 _
  injection h1 with h1
  injection h2 with h2
  injection h3 with h3
  injection h4 with h4
  rw [h1, nums_inj h2, nums_inj h3, h4]
theorem nk_state (x : State) : nkOf x.d = some x.key := by
  simp only [State.d, State.key, nkOf, nkOfs, nkOfs_ints, Option.map_some]
@[simp] theorem keyD_state (x : State) (k : NK) : keyD x.d k ↔ k = x.key := by
  unfold keyD
  rw [nk_state]
  constructor
  · rintro ⟨h, _⟩; exact (Option.some.inj h).symm
  · rintro rfl; exact ⟨rfl, key_depth x, _, rfl⟩
/-! ### tables -/
section
variable {α : Type}
def encT (f : α → D) (t : List (State × α)) : ND := t.map fun p => (p.1.key, f p.2)
def lookT (t : List (State × α)) (x : State) : Option α := (t.find? fun p => decide (p.1 = x)).map (·.2)
def putT (t : List (State × α)) (x : State) (a : α) : List (State × α) := if (lookT t x).isSome = true then t.map (fun p => if p.1 = x then (p.1, a) else p) else t ++ [(x, a)]
theorem lookT_nil (x : State) : lookT ([] : List (State × α)) x = none := rfl
theorem lookT_cons (p : State × α) (t : List (State × α)) (x : State) : lookT (p :: t) x = if p.1 = x then some p.2 else lookT t x := by
  unfold lookT
  rw [List.find?_cons]
  by_cases e : p.1 = x <;> simp [e]
theorem getN_enc (f : α → D) (x : State) : ∀ t : List (State × α), getN (encT f t) x.key = (lookT t x).map f
  | [] => rfl
  | p :: t => by
    rw [lookT_cons]
    show ((((p.1.key, f p.2) :: encT f t).find? fun q => decide (q.1 = x.key)).map (·.2)) = _
    rw [List.find?_cons]
    by_cases e : p.1 = x
    · simp [e]
    · have e2 : ¬ p.1.key = x.key := fun q => e (key_inj q)
      simp only [e2, decide_false, e, if_false]
      exact getN_enc f x t
theorem putN_enc (f : α → D) (x : State) (a : α) (t : List (State × α)) : putN (encT f t) x.key (f a) = encT f (putT t x a) := by
  unfold putN putT
  rw [getN_enc, Option.isSome_map]
  split
  · unfold encT
    rw [List.map_map, List.map_map]
    refine List.map_congr_left fun p _ => ?_
    simp only [Function.comp_apply]
    by_cases e : p.1 = x
    · simp [e]
    · have e2 : ¬ p.1.key = x.key := fun q => e (key_inj q)
      simp [e, e2]
  · simp [encT]
theorem lookT_append (t u : List (State × α)) (x : State) : lookT (t ++ u) x = (lookT t x).or (lookT u x) := by
  unfold lookT
  rw [List.find?_append]
  cases t.find? fun p => decide (p.1 = x) <;> rfl
theorem lookT_repl (x y : State) (a : α) : ∀ t : List (State × α), lookT (t.map fun p => if p.1 = x then (p.1, a) else p) y = if y = x then (lookT t x).map fun _ => a else lookT t y
  | [] => by simp [lookT_nil]
  | p :: t => by
    rw [List.map_cons, lookT_cons, lookT_cons, lookT_cons, lookT_repl x y a t]
    by_cases e : p.1 = x
    · by_cases e2 : y = x
      · subst e2; simp [e]
      · have : ¬ x = y := fun z => e2 z.symm
        simp [e, e2, this]
    · by_cases e2 : y = x
      · subst e2; simp [e]
      · simp [e, e2]
theorem lookT_put (t : List (State × α)) (x y : State) (a : α) : lookT (putT t x a) y = if y = x then some a else lookT t y := by
  unfold putT
  split
  · rename_i h
    rw [lookT_repl]
    split
    · cases e : lookT t x with
      | none => rw [e] at h; simp at h
      | some b => rfl
    · rfl
  · rename_i h
    rw [lookT_append]
    have hn : lookT t x = none := by simpa using h
    by_cases e : y = x
    · subst e; rw [hn]; simp [lookT_cons]
    · simp [lookT_cons, lookT_nil, e, Ne.symm e, (fun z => e z.symm : ¬ x = y)]
theorem putT_len (t : List (State × α)) (x : State) (a : α) : (putT t x a).length ≤ t.length + 1 := by
  unfold putT; split <;> simp
theorem encT_len (f : α → D) (t : List (State × α)) : (encT f t).length = t.length := by simp [encT]
theorem lookT_of {t : List (State × α)} (nd : (t.map (·.1)).Nodup) {p : State × α} (h : p ∈ t) : lookT t p.1 = some p.2 := by
  induction t with
  | nil => cases h
  | cons q t ih =>
    rw [lookT_cons]
    simp only [List.map_cons, List.nodup_cons] at nd
    rcases List.mem_cons.mp h with rfl | h
    · simp
    · rw [if_neg, ih nd.2 h]
      intro e
      exact nd.1 (e ▸ List.mem_map.mpr ⟨p, h, rfl⟩)
theorem lookT_map (g : State → α) (x : State) : ∀ l : List State, lookT (l.map fun y => (y, g y)) x = if x ∈ l then some (g x) else none
  | [] => rfl
  | y :: l => by
    rw [List.map_cons, lookT_cons, lookT_map g x l]
    by_cases e : y = x
    · subst e; simp
    · simp [e, Ne.symm e, (fun z => e z.symm : ¬ x = y)]
/-- the keys, each once; a store leaves them so -/
theorem putT_keys (t : List (State × α)) (x : State) (a : α) : (putT t x a).map (·.1) = if (lookT t x).isSome = true then t.map (·.1) else t.map (·.1) ++ [x] := by
  unfold putT
  split
  · rw [List.map_map]
    refine List.map_congr_left fun p _ => ?_
    simp only [Function.comp_apply]
    split <;> rfl
  · simp
theorem lookT_mem {t : List (State × α)} {x : State} : (lookT t x).isSome = true ↔ x ∈ t.map (·.1) := by
  induction t with
  | nil => simp [lookT_nil]
  | cons p t ih =>
    rw [lookT_cons]
    by_cases e : p.1 = x
    · simp [e]
    · simp only [e, if_false, ih, List.map_cons, List.mem_cons]
      constructor
      · exact .inr
      · rintro (z | z)
        · exact absurd z.symm e
        · exact z
theorem lookT_putT_fun (t : List (State × (Int × Int))) (x : State) (w : Int × Int) : lookT (putT t x w) = fput (lookT t) x w := by
  funext y
  rw [lookT_put]
  rfl
end
@[simp] def pairD (v : Int × Int) : D := .tup [.int v.1, .int v.2]
@[simp] def nextD (p : Step × State) : D := .tup [p.1.d, p.2.d]
def nextsD (l : List (Step × State)) : D := .lst (l.map nextD)
def selfI (C : CC) (s : Store) (x0 : State) (pf pn pb : Addr) : Cell := .ins C.se [("store", s.o C), ("state", x0.d), ("found", .ref pf), ("nexts", .ref pn), ("best", .ref pb)]
section
variable {C : CC} {s : Store} {x0 : State} {pf pn pb a : Addr} {W : Wd} {Q : QD} {k : Prop}
theorem fs_store (h : W a = some (selfI C s x0 pf pn pb)) : fldD C.se "store" (.ref a) W Q = Q (s.o C) W := by
  simp [fldD, h, selfI, List.lookup]
theorem fs_state (h : W a = some (selfI C s x0 pf pn pb)) : fldD C.se "state" (.ref a) W Q = Q x0.d W := by
  simp [fldD, h, selfI, List.lookup]
theorem fs_found (h : W a = some (selfI C s x0 pf pn pb)) : fldD C.se "found" (.ref a) W Q = Q (.ref pf) W := by
  simp [fldD, h, selfI, List.lookup]
theorem fs_nexts (h : W a = some (selfI C s x0 pf pn pb)) : fldD C.se "nexts" (.ref a) W Q = Q (.ref pn) W := by
  simp [fldD, h, selfI, List.lookup]
theorem fs_best (h : W a = some (selfI C s x0 pf pn pb)) : fldD C.se "best" (.ref a) W Q = Q (.ref pb) W := by
  simp [fldD, h, selfI, List.lookup]
theorem ms_any {m : Str} (h : W a = some (selfI C s x0 pf pn pb)) (hm : m ∈ (["by", "is_less", "plan", "paper", "reckon"] : List Str)) : methD C.se m (.ref a) W k = k := by
  simp only [List.mem_cons, List.not_mem_nil, or_false] at hm
  rcases hm with rfl | rfl | rfl | rfl | rfl <;> simp [methD, h, selfI, List.lookup]
end
theorem lexLt2 (a b c d : Int) : HT.lexLt [a, b] [c, d] = decide (lt2 (a, b) (c, d)) := by
  rw [Bool.eq_iff_iff, decide_eq_true_iff]
  unfold lt2
  simp [HT.lexLt]
  split <;> omega
def sp_is_end (C : CC) : SpD := fun ds W Q _ => ∃ (s : Store) (x : State), ds = [s.o C, x.d] ∧ x.done.length ≤ 1000000 ∧ s.wishes.length ≤ 1000000 ∧ Q (.bl (isEnd s x)) W
def td_is_end (C : CC) : TSd :=
  (tsRet (tdAndV (tdOp dEq (tdCB dLen (tdCons (tdOp dIx (tdVar 1) (tdC (.int 1))) tdNil)) (tdCB dLen (tdCons (tdFld C.st "kept_wishes" (tdVar 0)) tdNil))) (tdOp dEq (tdOp dIx (tdVar 1) (tdC (.int 2))) (tdTup tdNil))))
theorem q_is_end (C : CC) : Q_ (sp_is_end C) (td_is_end C) 2 := by
  rintro ds W Qd Ed ⟨s, x, rfl, h1, h2, h⟩
  unfold isEnd at h
  simp [td_is_end, sizeLine]
  split
  · rename_i e
    have e : x.done.length = s.wishes.length := by omega
    simpa [e] using h
  · rename_i e
    have e : ¬ x.done.length = s.wishes.length := by omega
    simpa [e] using h
theorem sp_is_end_s {C : CC} {s : Store} {x : State} {W : Wd} {Q : QD} {E : XD} (hs : s.Ok) (hx : x.Ok s) (h : Q (.bl (isEnd s x)) W) : sp_is_end C [s.o C, x.d] W Q E := ⟨s, x, rfl, by have := hx.len; have := hs.m5; omega, by have := hs.m5; omega, h⟩
def sp_shifts_of (C : CC) : SpD := fun ds W Q _ => ∃ t : Step, ds = [t.d] ∧ Q (.int (sh t)) W
def td_shifts_of (C : CC) : TSd :=
  (tsRet (tdCB dInt (tdCons (tdOp dEq (tdOp dIx (tdVar 0) (tdC (.int 0))) (tdC (.str "shift"))) tdNil)))
theorem q_shifts_of (C : CC) : Q_ (sp_shifts_of C) (td_shifts_of C) 1 := by
  rintro ds W Qd Ed ⟨t, rfl, h⟩
  cases t <;> simpa [td_shifts_of, sh] using h
@[simp] theorem sp_shifts_of_s {C : CC} {t : Step} {W : Wd} {Q : QD} {E : XD} : sp_shifts_of C [t.d] W Q E = Q (.int (sh t)) W := by
  refine propext ⟨?_, fun h => ⟨t, rfl, h⟩⟩
  rintro ⟨t', e, h⟩
  rw [List.cons.injEq, step_inj] at e
  rw [e.1]; exact h
/-- the search stands: itself, its table -/
structure Here (C : CC) (s : Store) (x0 : State) (a pf pn pb : Addr) (b : List (State × (Int × Int))) (W : Wd) : Prop where
  me : W a = some (selfI C s x0 pf pn pb)
  best : W pb = some (.dn C.hs (encT pairD b))
def sp_Search_by (C : CC) : SpD := fun ds W Q _ => ∃ (a pf pn pb : Addr) (s : Store) (x0 y : State) (t : Step) (b : List (State × (Int × Int))) (v : Int × Int), ds = [.ref a, t.d, y.d] ∧ Here C s x0 a pf pn pb b W ∧ lookT b y = some v ∧ Q (pairD (by_ v t)) W
def td_Search_by (C : CC) : TSd :=
  (tsRet (tdTup (tdCons (tdOp dAdd (tdOp dIx (tdOp (dIxN C.hs) (tdFld C.se "best" (tdVar 0)) (tdVar 2)) (tdC (.int 0))) (tdCall (sp_shifts_of C) (tdCons (tdVar 1) tdNil))) (tdCons (tdOp dAdd (tdOp dIx (tdOp (dIxN C.hs) (tdFld C.se "best" (tdVar 0)) (tdVar 2)) (tdC (.int 1))) (tdC (.int 1))) tdNil))))
theorem q_Search_by (C : CC) : Q_ (sp_Search_by C) (td_Search_by C) 3 := by
  rintro ds W Qd Ed ⟨a, pf, pn, pb, s, x0, y, t, b, v, rfl, H, hv, h⟩
  simpa [td_Search_by, fs_best H.me, H.best, getN_enc, hv, sizeLine, -State.d, -Step.d, by_] using h
def sp_Search_is_less (C : CC) : SpD := fun ds W Q _ => ∃ (a pf pn pb : Addr) (s : Store) (x0 x y : State) (t : Step) (b : List (State × (Int × Int))) (v : Int × Int), ds = [.ref a, x.d, t.d, y.d] ∧ Here C s x0 a pf pn pb b W ∧ lookT b y = some v ∧ Q (.bl (less (lookT b) x (by_ v t))) W
def td_Search_is_less (C : CC) : TSd :=
  (tsRet (tdOrV (tdOp (dInN C.hs true) (tdVar 1) (tdFld C.se "best" (tdVar 0))) (tdOp dLt (tdMeth C.se "by" (sp_Search_by C) (tdVar 0) (tdCons (tdVar 2) (tdCons (tdVar 3) tdNil))) (tdOp (dIxN C.hs) (tdFld C.se "best" (tdVar 0)) (tdVar 1)))))
theorem q_Search_is_less (C : CC) : Q_ (sp_Search_is_less C) (td_Search_is_less C) 4 := by
  rintro ds W Qd Ed ⟨a, pf, pn, pb, s, x0, x, y, t, b, v, rfl, H, hv, h⟩
  simp [td_Search_is_less, fs_best H.me, H.best, getN_enc, sizeLine, ms_any H.me, -State.d, -Step.d, -pairD]
  cases e : lookT b x with
  | none => simpa [less, e] using h
  | some u =>
    simp only [reduceCtorEq, if_false]
    refine ⟨a, pf, pn, pb, s, x0, y, t, b, v, rfl, H, hv, ?_⟩
    simp [fs_best H.me, H.best, getN_enc, e, -State.d, -Step.d]
    refine ⟨[_, _], rfl, [_, _], rfl, ?_⟩
    rw [lexLt2]
    simpa [less, e] using h
/-! ### going over -/
theorem whL_acc {α : Type} {r : α → α → Prop} {tt : TTd} {tb : TSd} {Dd : EndsD} (Inv : α → DEnv → Wd → Prop)
    (step : ∀ f, (∃ ρ W, Inv f ρ W) → (∀ ρ W (Nx : DEnv → Wd → Prop), Inv f ρ W → tt ρ W (fun b W1 => if b = true then tb { Dd with nx := Nx, ct := Nx, bk := Dd.nx } ρ W1 else Dd.nx ρ W1) Dd.ex) ∨
      ∃ f', r f' f ∧ ∀ ρ W (Nx : DEnv → Wd → Prop), Inv f ρ W → (∀ ρ' W', Inv f' ρ' W' → Nx ρ' W') → tt ρ W (fun b W1 => if b = true then tb { Dd with nx := Nx, ct := Nx, bk := Dd.nx } ρ W1 else Dd.nx ρ W1) Dd.ex) :
    ∀ f, Acc r f → ∃ n, ∀ ρ W, Inv f ρ W → whL tt tb Dd n ρ W := by
  intro f hf
  induction hf with
  | intro f _ ih =>
    by_cases h : ∃ ρ W, Inv f ρ W
    · rcases step f h with hl | ⟨f', hr, hs⟩
      · exact ⟨1, fun ρ W hi => hl ρ W _ hi⟩
      · obtain ⟨n, hn⟩ := ih f' hr
        exact ⟨n + 1, fun ρ W hi => hs ρ W _ hi hn⟩
    · exact ⟨0, fun ρ W hi => absurd ⟨ρ, W, hi⟩ h⟩
theorem whL_run {α : Type} {r : α → α → Prop} {tt : TTd} {tb : TSd} {Dd : EndsD} {ρ : DEnv} {W : Wd} (Inv : α → DEnv → Wd → Prop) {f : α} (hf : Acc r f) (hi : Inv f ρ W)
    (step : ∀ f, (∃ ρ W, Inv f ρ W) → (∀ ρ W (Nx : DEnv → Wd → Prop), Inv f ρ W → tt ρ W (fun b W1 => if b = true then tb { Dd with nx := Nx, ct := Nx, bk := Dd.nx } ρ W1 else Dd.nx ρ W1) Dd.ex) ∨
      ∃ f', r f' f ∧ ∀ ρ W (Nx : DEnv → Wd → Prop), Inv f ρ W → (∀ ρ' W', Inv f' ρ' W' → Nx ρ' W') → tt ρ W (fun b W1 => if b = true then tb { Dd with nx := Nx, ct := Nx, bk := Dd.nx } ρ W1 else Dd.nx ρ W1) Dd.ex) :
    ∃ n, whL tt tb Dd n ρ W := by
  obtain ⟨n, h⟩ := whL_acc Inv step f hf
  exact ⟨n, h ρ W hi⟩
def LessB (L : List State) (a b : Tab × Bool) : Prop := b.2 = true ∧ (a.2 = true → Less L a.1 b.1)
theorem lessB_acc (L : List State) : ∀ a, Acc (LessB L) a := by
  have h0 : ∀ f, Acc (LessB L) (f, false) := fun f => ⟨_, fun y h => by cases h.1⟩
  have h1 : ∀ f, Acc (LessB L) (f, true) := fun f => (less_wf L).induction (C := fun f => Acc (LessB L) (f, true)) f fun f ih => ⟨_, fun y h => by
    obtain ⟨y1, y2⟩ := y
    cases y2 with
    | false => exact h0 y1
    | true => exact ih y1 (h.2 rfl)⟩
  rintro ⟨f, g⟩
  cases g with
  | false => exact h0 f
  | true => exact h1 f
/-- the table as it stands: of states found, each once, ways -/
structure TabOk (s : Store) (l : List State) (b : List (State × (Int × Int))) : Prop where
  nd : (b.map (·.1)).Nodup
  sub : ∀ x ∈ b.map (·.1), x ∈ l
  snd : Sound s (lookT b)
theorem TabOk.len {s : Store} {l : List State} {b : List (State × (Int × Int))} (h : TabOk s l b) : b.length ≤ l.length := by
  have := h.nd.length_le_of_subset h.sub
  simpa using this
theorem TabOk.put {s : Store} {l : List State} {b : List (State × (Int × Int))} (h : TabOk s l b) {x : State} {v : Int × Int} (hx : x ∈ l) (hw : Way s x v.1 v.2) : TabOk s l (putT b x v) := by
  refine ⟨?_, ?_, ?_⟩
  · rw [putT_keys]
    split
    · exact h.nd
    · rename_i hn
      rw [List.nodup_append]
      refine ⟨h.nd, by simp, fun a ha c hc => ?_⟩
      rw [List.mem_singleton.mp hc]
      rintro rfl
      exact hn (lookT_mem.mpr ha)
  · intro y hy
    rw [putT_keys] at hy
    split at hy
    · exact h.sub y hy
    · rcases List.mem_append.mp hy with z | z
      · exact h.sub y z
      · rw [List.mem_singleton.mp z]; exact hx
  · rw [lookT_putT_fun]
    intro y w hy
    simp only [fput] at hy
    split at hy
    · rename_i e; subst e; cases hy; exact hw
    · exact h.snd y w hy
theorem TabOk.off {s : Store} {l : List State} {b : List (State × (Int × Int))} (h : TabOk s l b) {x : State} (hx : x ∉ l) : lookT b x = none := by
  cases e : lookT b x with
  | none => rfl
  | some v => exact absurd (h.sub x (lookT_mem.mp (by rw [e]; rfl))) hx
/-- the search as it stands before it is reckoned -/
structure Stands (C : CC) (s : Store) (x0 : State) (a pf pn pb : Addr) (l : List State) (W : Wd) : Prop where
  me : W a = some (selfI C s x0 pf pn pb)
  fnd : W pf = some (.lst (l.map State.d))
  nx : W pn = some (.dn C.hs (encT nextsD (l.map fun x => (x, nexts s x))))
  bn : pb ≠ pn
  bf : pb ≠ pf
  ba : pb ≠ a
def sp_Search_reckon (C : CC) : SpD := fun ds W Q _ => ∃ (a pf pn pb : Addr) (s : Store) (x0 : State) (l : List State), ds = [.ref a] ∧ s.Ok ∧ x0.In s ∧ Found s x0 l ∧ Stands C s x0 a pf pn pb l W ∧ W pb = some (.dn C.hs []) ∧
  ∀ b, (∀ x ∈ l, IsBest s x (lookT b x)) → (∀ x, x ∉ l → lookT b x = none) → Q .non (updW W pb (.dn C.hs (encT pairD b)))
def td_Search_reckon (C : CC) : TSd :=
  (tsSeq (tsFor (tiSeq (tdFld C.se "found" (tdVar 0))) (.name 1) (tsIf (tdB (tdCall (sp_is_end C) (tdCons (tdFld C.se "store" (tdVar 0)) (tdCons (tdVar 1) tdNil)))) (tsDn C.hs (tdFld C.se "best" (tdVar 0)) (tdVar 1) (tdTup (tdCons (tdC (.int 0)) (tdCons (tdC (.int 0)) tdNil)))) tsNext))
    (tsSeq (tsAsg (tdC (.bl true)) (.name 2))
    (tsWhile (tdB (tdVar 2)) (tsSeq (tsAsg (tdC (.bl false)) (.name 2))
    (tsFor (tiRev (tdFld C.se "found" (tdVar 0))) (.name 1) (tsFor (tiSeq (tdOp (dIxN C.hs) (tdFld C.se "nexts" (tdVar 0)) (tdVar 1))) (.tup [3, 4]) (tsIf (tdAnd (tdB (tdOp (dInN C.hs false) (tdVar 4) (tdFld C.se "best" (tdVar 0)))) (tdB (tdMeth C.se "is_less" (sp_Search_is_less C) (tdVar 0) (tdCons (tdVar 1) (tdCons (tdVar 3) (tdCons (tdVar 4) tdNil)))))) (tsSeq (tsDn C.hs (tdFld C.se "best" (tdVar 0)) (tdVar 1) (tdMeth C.se "by" (sp_Search_by C) (tdVar 0) (tdCons (tdVar 3) (tdCons (tdVar 4) tdNil))))
    (tsAsg (tdC (.bl true)) (.name 2))) tsNext)))))))
theorem q_Search_reckon (C : CC) : Q_ (sp_Search_reckon C) (td_Search_reckon C) 5 := by
  rintro ds W Qd Ed ⟨a, pf, pn, pb, s, x0, l, rfl, hs, h0, hF, H, hb, h⟩
  have hin := hF.in hs h0
  have hlen := many hs hF.nd hin
  have me : ∀ c, updW W pb c a = some (selfI C s x0 pf pn pb) := fun c => by rw [updW_ne H.ba.symm]; exact H.me
  have fnd : ∀ c, updW W pb c pf = some (.lst (l.map State.d)) := fun c => by rw [updW_ne H.bf.symm]; exact H.fnd
  have nx : ∀ c, updW W pb c pn = some (.dn C.hs (encT nextsD (l.map fun x => (x, nexts s x)))) := fun c => by rw [updW_ne H.bn.symm]; exact H.nx
  have hr : ∀ c, Here C s x0 a pf pn pb c (updW W pb (.dn C.hs (encT pairD c))) := fun c => ⟨me _, updW_same⟩
  have hW : W = updW W pb (.dn C.hs (encT pairD [])) := by
    funext q
    by_cases e : q = pb
    · subst e; rw [updW_same]; exact hb
    · rw [updW_ne e]
  simp [td_Search_reckon, sizeLine, fs_found H.me, H.fnd]
  refine forL_inv (α := State) State.d (fun as ρ W' => ∃ b one, W' = updW W pb (.dn C.hs (encT pairD b)) ∧ ρ = [some (.ref a), one, none, none, none] ∧ TabOk s l b ∧ (∀ x ∈ as, x ∈ l) ∧ ∀ x ∈ l, x ∉ as → isEnd s x = true → lookT b x = some (0, 0)) ?_ ?_ l _ W
    ⟨[], _, hW, rfl, ⟨by simp, fun x hx => by simp at hx, fun x v hx => by cases hx⟩, fun x hx => hx, fun x hx hn => absurd hx hn⟩
  · rintro ρ W' ⟨b, one, rfl, rfl, hT, -, hE⟩
    refine ⟨fnd _, ?_⟩
    simp
    refine whL_run (r := LessB l.reverse) (fun (f : Tab × Bool) ρ W' => ∃ b one st ot, W' = updW W pb (.dn C.hs (encT pairD b)) ∧ ρ = [some (.ref a), one, some (.bl f.2), st, ot] ∧ TabOk s l b ∧ Ends0 s l (lookT b) ∧ lookT b = f.1 ∧ (f.2 = false → ∀ x ∈ l, IsBest s x (lookT b x))) (f := (lookT b, true)) (lessB_acc _ _) ⟨b, _, _, _, rfl, rfl, hT, fun x hx he => ⟨(0, 0), hE x hx (by simp) he, le2_refl _⟩, rfl, fun z => by cases z⟩ ?_
    · rintro ⟨f, g⟩ ⟨ρ0, W0, b0, o0, s0, t0, -, -, hT0, hE0, rfl, -⟩
      cases g with
      | false =>
        refine .inl ?_
        rintro ρ W' Nx ⟨b, one, st, ot, rfl, rfl, hT, hE, ef, hbst⟩
        simp
        exact h b (hbst rfl) fun x hx => hT.off hx
      | true =>
        refine .inr ⟨pass s l.reverse (lookT b0), ⟨rfl, fun e => ?_⟩, ?_⟩
        · have hc := pass_came (s := s) (l := l.reverse) (f := lookT b0)
          exact ⟨(pass_sound _ hT0.snd).nonneg, hT0.snd.nonneg, hc.le, hc.lt e⟩
        · rintro ρ W' Nx ⟨b, one, st, ot, rfl, rfl, hT, hE, ef, -⟩ hN
          simp only at ef
          rw [← ef] at hN
          simp [fs_found (me _), fnd, ← List.map_reverse]
          refine forL_inv (α := State) State.d (fun as ρ W' => ∃ c g one st ot, W' = updW W pb (.dn C.hs (encT pairD c)) ∧ ρ = [some (.ref a), one, some (.bl g), st, ot] ∧ TabOk s l c ∧ (∀ x ∈ as, x ∈ l) ∧ as.foldl (relax s) (lookT c, g) = pass s l.reverse (lookT b)) ?_ ?_ l.reverse _ _
            ⟨b, _, _, _, _, rfl, rfl, hT, fun x hx => List.mem_reverse.mp hx, rfl⟩
          · rintro ρ W' ⟨c, g, one, st, ot, rfl, rfl, hTc, -, hR⟩
            refine ⟨fnd _, hN _ _ ⟨c, one, st, ot, rfl, ?_, hTc, ?_, ?_, ?_⟩⟩
            · rw [← hR]; rfl
            · rw [show lookT c = (pass s l.reverse (lookT b)).1 by rw [← hR]; rfl]
              exact ends_le hE (pass_came (s := s)).le
            · rw [← hR]; rfl
            · intro hg
              obtain ⟨h1, h2⟩ := passes_still (s := s) l.reverse hg
              have e : lookT c = lookT b := by
                rw [← h1]
                show lookT c = (pass s l.reverse (lookT b)).1
                rw [← hR]; rfl
              rw [e]
              exact still_best hF.closed hT.snd hE fun x hx => h2 x (List.mem_reverse.mpr hx)
          · rintro x as ρ W' Nx ⟨c, g, one, st, ot, rfl, rfl, hTc, hsub, hR⟩ hN
            refine ⟨fnd _, ?_⟩
            have hx := hsub x List.mem_cons_self
            simp [fs_nexts (me _), nx, getN_enc, lookT_map, hx, nextsD, -State.d, -nextD]
            refine forL_inv (α := Step × State) nextD (fun ps ρ W' => ∃ c g st ot, W' = updW W pb (.dn C.hs (encT pairD c)) ∧ ρ = [some (.ref a), some x.d, some (.bl g), st, ot] ∧ TabOk s l c ∧ (∀ p ∈ ps, p ∈ nexts s x) ∧ as.foldl (relax s) (ps.foldl (relax1 x) (lookT c, g)) = pass s l.reverse (lookT b)) ?_ ?_ (nexts s x) _ _
              ⟨c, _, _, _, rfl, rfl, hTc, fun p hp => hp, hR⟩
            · rintro ρ W' ⟨c, g, st, ot, rfl, rfl, hTc, -, hR⟩
              exact ⟨trivial, hN _ _ ⟨c, _, _, _, _, rfl, rfl, hTc, fun y hy => hsub y (List.mem_cons_of_mem _ hy), hR⟩⟩
            · rintro p ps ρ W' Nx ⟨c, g, st, ot, rfl, rfl, hTc, hps, hR⟩ hN
              have hp := hps p List.mem_cons_self
              have hps' : ∀ q ∈ ps, q ∈ nexts s x := fun q hq => hps q (List.mem_cons_of_mem _ hq)
              refine ⟨trivial, ?_⟩
              simp [fs_best (me _), updW_same, getN_enc, ms_any (me _), -State.d, -Step.d]
              cases ev : lookT c p.2 with
              | none =>
                simp
                refine hN _ _ ⟨c, g, _, _, rfl, rfl, hTc, hps', ?_⟩
                rw [← hR, List.foldl_cons]
                simp [relax1, ev]
              | some v =>
                simp [-State.d, -Step.d]
                refine ⟨a, pf, pn, pb, s, x0, x, p.2, p.1, c, v, rfl, hr c, ev, ?_⟩
                cases el : less (lookT c) x (by_ v p.1) with
                | false =>
                  simp
                  refine hN _ _ ⟨c, g, _, _, rfl, rfl, hTc, hps', ?_⟩
                  rw [← hR, List.foldl_cons]
                  simp [relax1, ev, el]
                | true =>
                  simp [ms_any (me _), -State.d, -Step.d]
                  refine ⟨a, pf, pn, pb, s, x0, p.2, p.1, c, v, rfl, hr c, ev, ?_⟩
                  have := hTc.len
                  simp [fs_best (me _), updW_same, updW_updW, encT_len, sizeLine, -State.d, -Step.d, -pairD]
                  refine ⟨by omega, ?_⟩
                  rw [putN_enc]
                  refine hN _ _ ⟨putT c x (by_ v p.1), true, _, _, rfl, rfl, hTc.put hx (.step hp (hTc.snd _ _ ev)), hps', ?_⟩
                  rw [← hR, List.foldl_cons, lookT_putT_fun]
                  simp [relax1, ev, el]
  · rintro x as ρ W' Nx ⟨b, one, rfl, rfl, hT, hsub, hE⟩ hN
    refine ⟨fnd _, ?_⟩
    have hx := hsub x List.mem_cons_self
    simp [fs_store (me _), -State.d]
    refine sp_is_end_s hs (hin x hx).ok ?_
    cases e : isEnd s x with
    | false =>
      simp
      refine hN _ _ ⟨b, _, rfl, rfl, hT, fun y hy => hsub y (List.mem_cons_of_mem _ hy), fun y hy hn he => hE y hy (fun z => ?_) he⟩
      rcases List.mem_cons.mp z with rfl | z
      · rw [e] at he; cases he
      · exact hn z
    | true =>
      simp [fs_best (me _), updW_same, updW_updW, encT_len, sizeLine, -State.d]
      have := hT.len
      refine ⟨by omega, ?_⟩
      have e2 := putN_enc pairD x (0, 0) b
      simp only [pairD] at e2
      rw [e2]
      refine hN _ _ ⟨putT b x (0, 0), _, rfl, rfl, hT.put hx (.stop e), fun y hy => hsub y (List.mem_cons_of_mem _ hy), fun y hy hn he => ?_⟩
      rw [lookT_put]
      split
      · rfl
      · rename_i ne
        exact hE y hy (fun z => by rcases List.mem_cons.mp z with z | z; exact ne z; exact hn z) he
end AI

/-! SR4: a search: its plan, its paper, how it is gone through; least. -/
namespace AI
open PySem PySem.Spec PyProof.Rows L2 DL
open PySem.W (dataLe alike keyToks AllAlike Sortable sortLe sortLe_total toks_eqv)
abbrev Qd_ (sp : SpD) (td : TSd) (n : Nat) : Prop := ∀ ds W Qd Ed, sp ds W Qd Ed → td { nx := fun _ W' => Dr (Qd .non) W', rt := fun d W' => Dr (Qd d) W', ex := fun c fs W' => Dr (Ed c fs) W' } (startN n ds) W
/-! ### a plan -/
def shs : List Step → Int
  | [] => 0
  | t :: ts => sh t + shs ts
theorem shs_snoc : ∀ (ts : List Step) (t : Step), shs (ts ++ [t]) = shs ts + sh t
  | [], t => by simp [shs]
  | u :: ts, t => by simp [shs, shs_snoc ts t]; omega
/-- the plan that the search tells: always the first of the least steps -/
inductive Fst (s : Store) : State → List Step → Prop
  | stop {x : State} : bestO s x = some (0, 0) → Fst s x []
  | step {x : State} {w u : Int × Int} {pre post : List (Step × State)} {p : Step × State} {ts : List Step} : bestO s x = some w → w ≠ (0, 0) → nexts s x = pre ++ p :: post → (∀ q ∈ pre, ∀ u, bestO s q.2 = some u → by_ u q.1 ≠ w) → bestO s p.2 = some u → by_ u p.1 = w → Fst s p.2 ts → Fst s x (p.1 :: ts)
theorem first_split {α : Type} {P : α → Prop} : ∀ {pre pre' post post' : List α} {p p' : α}, pre ++ p :: post = pre' ++ p' :: post' → (∀ q ∈ pre, ¬ P q) → (∀ q ∈ pre', ¬ P q) → P p → P p' → p = p'
  | [], [], _, _, _, _, e, _, _, _, _ => by simp at e; exact e.1
  | [], a :: pre', _, _, p, _, e, _, h', hp, _ => by
    simp at e
    exact absurd hp (by rw [e.1]; exact h' a List.mem_cons_self)
  | a :: pre, [], _, _, _, p', e, h, _, _, hp' => by
    simp at e
    exact absurd hp' (by rw [← e.1]; exact h a List.mem_cons_self)
  | a :: pre, b :: pre', _, _, _, _, e, h, h', hp, hp' => by
    simp at e
    exact first_split e.2 (fun q hq => h q (List.mem_cons_of_mem _ hq)) (fun q hq => h' q (List.mem_cons_of_mem _ hq)) hp hp'
theorem Fst.one {s : Store} {x : State} {ts us : List Step} (h : Fst s x ts) (h' : Fst s x us) : ts = us := by
  induction h generalizing us with
  | stop e =>
    cases h' with
    | stop _ => rfl
    | step e' hw _ _ _ _ _ => rw [e] at e'; cases e'; exact absurd rfl hw
  | @step x w u pre post p ts e hw hn hpre hu hb hF ih =>
    cases h' with
    | stop e' => rw [e] at e'; cases e'; exact absurd rfl hw
    | @step _ w' u' pre' post' p' ts' e' hw' hn' hpre' hu' hb' hF' =>
      rw [e] at e'; cases e'
      have ep : p = p' := first_split (P := fun q : Step × State => ∃ u, bestO s q.2 = some u ∧ by_ u q.1 = w) (hn.symm.trans hn') (fun q hq ⟨u, h1, h2⟩ => hpre q hq u h1 h2) (fun q hq ⟨u, h1, h2⟩ => hpre' q hq u h1 h2) ⟨u, hu, hb⟩ ⟨u', hu', hb'⟩
      subst ep
      rw [ih hF']
/-- a plan from a state to an end -/
structure PlanOf (s : Store) (x : State) (ts : List Step) (v : Int × Int) : Prop where
  free : free s x ts
  fin : isEnd s (last_ s x ts) = true
  sh : shs ts = v.1
  len : (ts.length : Int) = v.2
  fst : Fst s x ts
structure BestT (s : Store) (l : List State) (b : List (State × (Int × Int))) : Prop where
  on : ∀ x ∈ l, IsBest s x (lookT b x)
  off : ∀ x, x ∉ l → lookT b x = none
theorem best_down {s : Store} {l : List State} {f : Tab} (hcl : ∀ x ∈ l, ∀ p ∈ nexts s x, p.2 ∈ l) (hB : ∀ x ∈ l, IsBest s x (f x)) : ∀ (n : Nat) (x : State), x ∈ l → ∀ v, f x = some v → v.2 = n → ∀ k : Nat, k ≤ n → ∃ y ∈ l, ∃ w, f y = some w ∧ w.2 = k
  | 0, x, hx, v, hv, hn, k, hk => ⟨x, hx, v, hv, by omega⟩
  | n + 1, x, hx, v, hv, hn, k, hk => by
    by_cases e : k = n + 1
    · exact ⟨x, hx, v, hv, by omega⟩
    · have hb := hB x hx
      rw [hv] at hb
      obtain ⟨p, hp, w, hw, ew⟩ := Best.next hb (by rintro rfl; simp at hn; omega) f fun p hp => hB p.2 (hcl x hx p hp)
      refine best_down hcl hB n p.2 (hcl x hx p hp) w hw ?_ k (by omega)
      have := congrArg Prod.snd ew
      simp only at this
      omega
theorem best_len {s : Store} {l : List State} {f : Tab} (hcl : ∀ x ∈ l, ∀ p ∈ nexts s x, p.2 ∈ l) (hB : ∀ x ∈ l, IsBest s x (f x)) {x : State} (hx : x ∈ l) {v : Int × Int} (hv : f x = some v) : 0 ≤ v.1 ∧ 0 ≤ v.2 ∧ v.2 < l.length := by
  have hb := hB x hx
  rw [hv] at hb
  have hn := hb.way.nonneg
  refine ⟨hn.1, hn.2, ?_⟩
  have h := best_down hcl hB v.2.toNat x hx v hv (by omega)
  have := List.nodup_range (n := v.2.toNat + 1) |>.length_le_of_subset (l₂ := l.map fun y => ((f y).map fun w => w.2.toNat).getD 0) fun k hk => by
    obtain ⟨y, hy, w, hw, e⟩ := h k (by have := List.mem_range.mp hk; omega)
    exact List.mem_map.mpr ⟨y, hy, by rw [hw]; simp [e]⟩
  rw [List.length_range, List.length_map] at this
  omega
theorem best_bestO {s : Store} {l : List State} {b : List (State × (Int × Int))} (hB : BestT s l b) {x : State} (hx : x ∈ l) : lookT b x = bestO s x := (bestO_of (hB.on x hx)).symm
def sp_Search_plan (C : CC) : SpD := fun ds W Q _ => ∃ (a pf pn pb : Addr) (s : Store) (x0 : State) (l : List State) (b : List (State × (Int × Int))) (v : Int × Int), ds = [.ref a] ∧ s.Ok ∧ x0.In s ∧ Found s x0 l ∧ Stands C s x0 a pf pn pb l W ∧ W pb = some (.dn C.hs (encT pairD b)) ∧ BestT s l b ∧ lookT b x0 = some v ∧
  ∀ p ts, W p = none → PlanOf s x0 ts v → Q (.ref p) (updW W p (.lst (ts.map Step.d)))
def td_Search_plan (C : CC) : TSd :=
  (tsSeq (tsAsg (tdLstM tdNil) (.name 1))
    (tsSeq (tsAsg (tdFld C.se "state" (tdVar 0)) (.name 2))
    (tsSeq (tsWhile (tdB (tdOp dNe (tdOp (dIxN C.hs) (tdFld C.se "best" (tdVar 0)) (tdVar 2)) (tdTup (tdCons (tdC (.int 0)) (tdCons (tdC (.int 0)) tdNil))))) (tsFor (tiSeq (tdOp (dIxN C.hs) (tdFld C.se "nexts" (tdVar 0)) (tdVar 2))) (.tup [3, 4]) (tsIf (tdAnd (tdB (tdOp (dInN C.hs false) (tdVar 4) (tdFld C.se "best" (tdVar 0)))) (tdB (tdOp dEq (tdMeth C.se "by" (sp_Search_by C) (tdVar 0) (tdCons (tdVar 3) (tdCons (tdVar 4) tdNil))) (tdOp (dIxN C.hs) (tdFld C.se "best" (tdVar 0)) (tdVar 2))))) (tsSeq (tsDrop (tdBM ty_append dAppend (tdVar 1) (tdCons (tdVar 3) tdNil)))
    (tsSeq (tsAsg (tdVar 4) (.name 2))
    tsBreak)) tsNext)))
    (tsRet (tdVar 1)))))
theorem q_Search_plan (C : CC) : Q_ (sp_Search_plan C) (td_Search_plan C) 5 := by
  rintro ds W Qd Ed ⟨a, pf, pn, pb, s, x0, l, b, v, rfl, hs, h0, hF, H, hb, hB, hv, h⟩
  have hin := hF.in hs h0
  have hlen := many hs hF.nd hin
  simp [td_Search_plan, sizeLine, -State.d]
  intro p hp
  have npa : a ≠ p := ne_of_W (by rw [H.me]) hp
  have npn : pn ≠ p := ne_of_W (by rw [H.nx]) hp
  have npb : pb ≠ p := ne_of_W (by rw [hb]) hp
  have me : ∀ c, updW W p c a = some (selfI C s x0 pf pn pb) := fun c => by rw [updW_ne npa]; exact H.me
  have nx : ∀ c, updW W p c pn = some (.dn C.hs (encT nextsD (l.map fun x => (x, nexts s x)))) := fun c => by rw [updW_ne npn]; exact H.nx
  have bst : ∀ c, updW W p c pb = some (.dn C.hs (encT pairD b)) := fun c => by rw [updW_ne npb]; exact hb
  have hr : ∀ c, Here C s x0 a pf pn pb b (updW W p c) := fun c => ⟨me _, bst _⟩
  have hx0 : x0 ∈ l := (hF.mem x0).mpr .start
  simp [fs_state (me _), -State.d]
  refine ⟨_, whL_inv (fun n ρ W' => ∃ ts w st ot, W' = updW W p (.lst (ts.map Step.d)) ∧ ρ = [some (.ref a), some (.ref p), some (last_ s x0 ts).d, st, ot] ∧ free s x0 ts ∧ last_ s x0 ts ∈ l ∧ lookT b (last_ s x0 ts) = some w ∧ shs ts + w.1 = v.1 ∧ (ts.length : Int) + w.2 = v.2 ∧ w.2 = (n : Int) ∧ ∀ rest, Fst s (last_ s x0 ts) rest → Fst s x0 (ts ++ rest)) ?_ v.2.toNat v.2.toNat _ _ (Nat.le_refl _)
    ⟨[], v, _, _, rfl, rfl, trivial, hx0, hv, by simp [shs], by simp, by have := (best_len hF.closed hB.on hx0 hv).2; omega, fun rest h => h⟩⟩
  rintro n ρ W' Nx ⟨ts, w, st, ot, rfl, rfl, hf, hl, hw, e1, e2, e3, hfs⟩ hN
  generalize ex : last_ s x0 ts = x at *
  have hwl := best_len hF.closed hB.on hl hw
  have hvl := best_len hF.closed hB.on hx0 hv
  have hbx := hB.on x hl
  rw [hw] at hbx
  simp [fs_best (me _), bst, getN_enc, hw, -State.d, -Step.d]
  refine ⟨by simp [sizeLine], ?_⟩
  by_cases ew : w.1 = 0 ∧ w.2 = 0
  · rw [if_pos ew]
    have : w = (0, 0) := Prod.ext ew.1 ew.2
    subst this
    refine h p ts hp ⟨hf, ?_, by omega, by omega, ?_⟩
    · rw [ex]
      exact Best.at0 hbx
    · have := hfs [] (.stop (by rw [← best_bestO hB hl]; exact hw))
      rwa [List.append_nil] at this
  · rw [if_neg ew]
    obtain ⟨q, hq, u, hu, eu⟩ := Best.next hbx (by rintro rfl; exact ew ⟨rfl, rfl⟩) (lookT b) fun q hq => hB.on q.2 (hF.closed x hl q hq)
    simp [fs_nexts (me _), nx, getN_enc, lookT_map, hl, nextsD, -State.d, -Step.d, -nextD]
    refine forL_inv (α := Step × State) nextD (fun ps ρ W' => W' = updW W p (.lst (ts.map Step.d)) ∧ (∃ st ot, ρ = [some (.ref a), some (.ref p), some x.d, st, ot]) ∧ (∃ pre, pre ++ ps = nexts s x ∧ ∀ q ∈ pre, ∀ u, bestO s q.2 = some u → by_ u q.1 ≠ w) ∧ ∃ q ∈ ps, ∃ u, lookT b q.2 = some u ∧ by_ u q.1 = w) ?_ ?_ (nexts s x) _ _
      ⟨rfl, ⟨_, _, rfl⟩, ⟨[], rfl, fun q hq => by cases hq⟩, q, hq, u, hu, eu⟩
    · rintro ρ W' ⟨_, _, _, q, hq, _⟩
      cases hq
    · rintro r ps ρ W' Nx' ⟨rfl, ⟨st, ot, rfl⟩, ⟨pre, epre, hpre⟩, q, hq, u, hu, eu⟩ hN'
      have hr0 : r ∈ nexts s x := by rw [← epre]; simp
      have hrl := hF.closed x hl r hr0
      have hps' : (∀ u, bestO s r.2 = some u → by_ u r.1 ≠ w) → ∃ pre, pre ++ ps = nexts s x ∧ ∀ q ∈ pre, ∀ u, bestO s q.2 = some u → by_ u q.1 ≠ w := fun hne => ⟨pre ++ [r], by simpa using epre, fun q hq => by
        rcases List.mem_append.mp hq with z | z
        · exact hpre q z
        · rw [List.mem_singleton.mp z]; exact hne⟩
      refine ⟨trivial, ?_⟩
      simp [fs_best (me _), bst, getN_enc, ms_any (me _), -State.d, -Step.d]
      cases ev : lookT b r.2 with
      | none =>
        simp
        refine hN' _ _ ⟨rfl, ⟨_, _, rfl⟩, hps' (fun u hu => by rw [← best_bestO hB hrl, ev] at hu; cases hu), q, ?_, u, hu, eu⟩
        rcases List.mem_cons.mp hq with rfl | hq
        · rw [ev] at hu; cases hu
        · exact hq
      | some u' =>
        simp [-State.d, -Step.d]
        refine ⟨a, pf, pn, pb, s, x0, r.2, r.1, b, u', rfl, hr _, ev, ?_⟩
        simp [fs_best (me _), bst, getN_enc, hw, -State.d, -Step.d]
        by_cases em : by_ u' r.1 = w
        · have em2 : (by_ u' r.1).1 = w.1 ∧ (by_ u' r.1).2 = w.2 := by rw [em]; exact ⟨rfl, rfl⟩
          rw [if_pos em2]
          simp [ty_list_ref _ updW_same, updW_same, updW_updW, sizeLine, -State.d, -Step.d]
          refine ⟨by omega, ?_⟩
          obtain ⟨g1, g2, g3, g4⟩ := next_in hs (hin x hl) hr0
          have hl2 : last_ s x0 (ts ++ [r.1]) = r.2 := by rw [last_snoc, ex, ← g4]
          have hw1 : w.1 = u'.1 + sh r.1 := by rw [← em]; rfl
          have hw2 : w.2 = u'.2 + 1 := by rw [← em]; rfl
          have hul := best_len hF.closed hB.on (hF.closed x hl r hr0) ev
          refine hN (n - 1) _ _ (by omega) ⟨ts ++ [r.1], u', _, _, by simp, by rw [hl2], (free_snoc s x0 ts r.1).mpr ⟨hf, by rw [ex]; exact g3, g2⟩, by rw [hl2]; exact hF.closed x hl r hr0, by rw [hl2]; exact ev, ?_, ?_, ?_, fun rest hrest => ?_⟩
          · rw [shs_snoc]; omega
          · rw [List.length_append, List.length_singleton]; omega
          · omega
          · rw [List.append_assoc]
            rw [hl2] at hrest
            refine hfs _ ?_
            exact .step (by rw [← best_bestO hB hl]; exact hw) (fun z => ew (by rw [z]; exact ⟨rfl, rfl⟩)) epre.symm hpre (by rw [← best_bestO hB hrl]; exact ev) em hrest
        · have em2 : ¬ ((by_ u' r.1).1 = w.1 ∧ (by_ u' r.1).2 = w.2) := fun z => em (Prod.ext z.1 z.2)
          rw [if_neg em2]
          refine hN' _ _ ⟨rfl, ⟨_, _, rfl⟩, hps' (fun u hu => by rw [← best_bestO hB hrl, ev] at hu; cases hu; exact em), q, ?_, u, hu, eu⟩
          rcases List.mem_cons.mp hq with rfl | hq
          · rw [ev] at hu; cases hu; exact absurd eu em
          · exact hq
/-! ### a paper -/
def optI : Option Int → D
  | none => .non
  | some n => .int n
@[simp] theorem optI_none : optI none = .non := rfl
@[simp] theorem optI_some (n : Int) : optI (some n) = .int n := rfl
def papD (q : State × Option Int) : D := .tup [q.1.d, optI q.2]
theorem alike_states (l : List State) : AllAlike ((l.map State.d).map toPy) := by
  intro d hd d' hd'
  simp only [List.mem_map] at hd hd'
  obtain ⟨_, ⟨x, _, rfl⟩, rfl⟩ := hd
  obtain ⟨_, ⟨y, _, rfl⟩, rfl⟩ := hd'
  exact alike_state x y
theorem sortable_states (l : List State) : Sortable ((l.map State.d).map toPy) := by
  refine .inl fun d hd => ?_
  simp only [List.mem_map] at hd
  obtain ⟨_, ⟨x, _, rfl⟩, rfl⟩ := hd
  exact ⟨_, _, rfl⟩
theorem okD_state (n : Nat) (x : State) : okD (n + 2) x.d = true := by simp
theorem sorted_states (l : List State) : (l.map State.d).mergeSort (dataLe false toPy) = (l.mergeSort leS).map State.d := by
  refine (List.map_mergeSort ?_).symm
  intro a _ b _
  rfl
theorem statesOf_mem {s : Store} {x0 : State} {l : List State} (h : Found s x0 l) {x : State} : x ∈ statesOf s x0 ↔ x ∈ l := by
  rw [← statesOf_of h, List.mem_mergeSort]
def sp_Search_paper (C : CC) : SpD := fun ds W Q _ => ∃ (a pf pn pb : Addr) (s : Store) (x0 : State) (l : List State) (b : List (State × (Int × Int))), ds = [.ref a] ∧ s.Ok ∧ x0.In s ∧ Found s x0 l ∧ Stands C s x0 a pf pn pb l W ∧ W pb = some (.dn C.hs (encT pairD b)) ∧ BestT s l b ∧
  ∀ p, W p = none → Q (.ref p) (updW W p (.lst ((paperOf s x0).map papD)))
def td_Search_paper (C : CC) : TSd :=
  (tsRet (tdLcM (tiSeq (tdCB dSortD (tdCons (tdFld C.se "found" (tdVar 0)) tdNil))) (.name 1) tdYes (tdTup (tdCons (tdVar 1) (tdCons (tdIf (tdB (tdOp (dInN C.hs false) (tdVar 1) (tdFld C.se "best" (tdVar 0)))) (tdOp dIx (tdOp (dIxN C.hs) (tdFld C.se "best" (tdVar 0)) (tdVar 1)) (tdC (.int 0))) (tdC .non)) tdNil))) [1]))
theorem q_Search_paper (C : CC) : Q_ (sp_Search_paper C) (td_Search_paper C) 2 := by
  rintro ds W Qd Ed ⟨a, pf, pn, pb, s, x0, l, b, rfl, hs, h0, hF, H, hb, hB, h⟩
  have hin := hF.in hs h0
  have hlen := many hs hF.nd hin
  simp [td_Search_paper, sizeLine, fs_found H.me, H.fnd, viewW_ref, alike_states, sortable_states, sorted_states, statesOf_of hF, -State.d, -List.map_map]
  refine ⟨fun x _ => okD_state _ x, by omega, ?_⟩
  refine lcL_pure (α := State) State.d (fun _ => true) (fun x => papD (x, (bestO s x).map (·.1))) _ trivial ?_ [] ?_
  · intro x hx Kt Kf hk
    have hx := (statesOf_mem hF).mp hx
    have e := best_bestO hB hx
    simp only [if_true] at hk
    simp [fs_best H.me, hb, getN_enc, -State.d]
    rw [← e] at hk
    cases e2 : lookT b x with
    | none => rw [e2] at hk; simpa [papD, sizeLine] using hk
    | some v =>
      obtain ⟨v1, v2⟩ := v
      rw [e2] at hk
      simp [sizeLine, fs_best H.me, hb, getN_enc, e2, -State.d]
      refine ⟨_, ⟨v1, v2, ⟨rfl, rfl⟩, rfl⟩, ?_⟩
      simpa [papD] using hk
  · intro p hp
    have := h p hp
    rw [paperOf, List.map_map] at this
    simpa [Function.comp_def] using this
/-! ### going through -/
/-- the search is done -/
structure Srch (C : CC) (s : Store) (x0 : State) (a pf pn pb : Addr) (l : List State) (b : List (State × (Int × Int))) (W W' : Wd) : Prop where
  fnd : Found s x0 l
  st : Stands C s x0 a pf pn pb l W'
  tb : W' pb = some (.dn C.hs (encT pairD b))
  bt : BestT s l b
  f0 : W pf = none
  n0 : W pn = none
  b0 : W pb = none
  ot : ∀ q, q ≠ a → q ≠ pf → q ≠ pn → q ≠ pb → W' q = W q
/-- known -/
def encK (f : List State) : ND := encT (fun _ : Unit => D.bl true) (f.map fun x => (x, ()))
theorem getN_encK (f : List State) (x : State) : (getN (encK f) x.key).isSome = decide (x ∈ f) := by
  unfold encK
  rw [getN_enc, lookT_map]
  split <;> simp_all
theorem getN_encK_none (f : List State) (x : State) : getN (encK f) x.key = none ↔ x ∉ f := by
  have := getN_encK f x
  cases e : getN (encK f) x.key <;> simp_all
theorem putN_encK {f : List State} {x : State} (h : x ∉ f) : putN (encK f) x.key (.bl true) = encK (f ++ [x]) := by
  unfold encK
  rw [putN_enc (fun _ : Unit => D.bl true) x ()]
  unfold putT
  rw [lookT_map, if_neg h]
  simp
def encX (s : Store) (f : List State) : ND := encT nextsD (f.map fun x => (x, nexts s x))
theorem putN_encX {s : Store} {f : List State} {x : State} (h : x ∉ f) : putN (encX s f) x.key (nextsD (nexts s x)) = encX s (f ++ [x]) := by
  unfold encX
  rw [putN_enc]
  unfold putT
  rw [lookT_map, if_neg h]
  simp
theorem getN_encX {s : Store} {f : List State} {x : State} (h : x ∈ f) : getN (encX s f) x.key = some (nextsD (nexts s x)) := by
  unfold encX
  rw [getN_enc, lookT_map, if_pos h]; rfl
theorem encX_len (s : Store) (f : List State) : (encX s f).length = f.length := by simp [encX, encT]
theorem encK_len (f : List State) : (encK f).length = f.length := by simp [encK, encT]
/-- on the way -/
structure Mid (C : CC) (s : Store) (x0 : State) (a pf pn pk : Addr) (f k : List State) (W W' : Wd) : Prop where
  me : W' a = some (.ins C.se [("store", s.o C), ("state", x0.d), ("found", .ref pf), ("nexts", .ref pn)])
  fnd : W' pf = some (.lst (f.map State.d))
  nx : W' pn = some (.dn C.hs (encX s k))
  kn : W' pk = some (.dn C.hs (encK f))
  ot : ∀ q, q ≠ a → q ≠ pf → q ≠ pn → q ≠ pk → W' q = W q
def sp_Search_init (C : CC) : SpD := fun ds W Q _ => ∃ (a : Addr) (s : Store) (x0 : State), ds = [.ref a, s.o C, x0.d] ∧ W a = some (.ins C.se []) ∧ s.Ok ∧ x0.In s ∧ ∀ pf pn pb l b W', Srch C s x0 a pf pn pb l b W W' → Q .non W'
def td_Search_init (C : CC) : TSd :=
  (tsSeq (tsFld C.se "store" (tdVar 0) (tdVar 1))
    (tsSeq (tsFld C.se "state" (tdVar 0) (tdVar 2))
    (tsSeq (tsFld C.se "found" (tdVar 0) (tdLstM (tdCons (tdVar 2) tdNil)))
    (tsSeq (tsFld C.se "nexts" (tdVar 0) (tdDisp0N C.hs))
    (tsSeq (tsAsg (tdDisp1N C.hs (tdVar 2) (tdC (.bl true))) (.name 3))
    (tsSeq (tsWhile (tdB (tdOp dLt (tdCB (dLenN C.hs) (tdCons (tdFld C.se "nexts" (tdVar 0)) tdNil)) (tdCB dLen (tdCons (tdFld C.se "found" (tdVar 0)) tdNil)))) (tsSeq (tsAsg (tdOp dIx (tdFld C.se "found" (tdVar 0)) (tdCB (dLenN C.hs) (tdCons (tdFld C.se "nexts" (tdVar 0)) tdNil))) (.name 4))
    (tsSeq (tsDn C.hs (tdFld C.se "nexts" (tdVar 0)) (tdVar 4) (tdLc (tiSeq (tdFrz (tdCall (sp_steps_at C) (tdCons (tdVar 1) (tdCons (tdVar 4) tdNil))))) (.name 5) tdYes (tdTup (tdCons (tdVar 5) (tdCons (tdCall (sp_behind C) (tdCons (tdVar 1) (tdCons (tdVar 4) (tdCons (tdVar 5) tdNil)))) tdNil))) [5]))
    (tsFor (tiSeq (tdOp (dIxN C.hs) (tdFld C.se "nexts" (tdVar 0)) (tdVar 4))) (.tup [5, 6]) (tsIf (tdB (tdOp (dInN C.hs true) (tdVar 6) (tdVar 3))) (tsSeq (tsDn C.hs (tdVar 3) (tdVar 6) (tdC (.bl true)))
    (tsDrop (tdBM ty_append dAppend (tdFld C.se "found" (tdVar 0)) (tdCons (tdVar 6) tdNil)))) tsNext)))))
    (tsSeq (tsFld C.se "best" (tdVar 0) (tdDisp0N C.hs))
    (tsDrop (tdMeth C.se "reckon" (sp_Search_reckon C) (tdVar 0) tdNil)))))))))
theorem q_Search_init (C : CC) : Qd_ (sp_Search_init C) (td_Search_init C) 7 := by
  rintro ds W Qd Ed ⟨a, s, x0, rfl, ha, hs, h0, h⟩
  simp [td_Search_init, sizeLine, ha, updW_same, updW_updW, putG, -State.d]
  intro pf hpf
  have nfa : pf ≠ a := by rintro rfl; rw [updW_same] at hpf; cases hpf
  have f0 : W pf = none := by rw [updW_ne nfa] at hpf; exact hpf
  simp [updW_ne nfa.symm, updW_same, putG, -State.d]
  intro pn hpn
  have nna : pn ≠ a := by rintro rfl; rw [updW_same] at hpn; cases hpn
  rw [updW_ne nna] at hpn
  have nnf : pn ≠ pf := by rintro rfl; rw [updW_same] at hpn; cases hpn
  have n0 : W pn = none := by rw [updW_ne nnf, updW_ne nna] at hpn; exact hpn
  simp [updW_ne nna.symm, updW_same, putG, -State.d]
  intro pk hpk
  have nka : pk ≠ a := by rintro rfl; rw [updW_same] at hpk; cases hpk
  rw [updW_ne nka] at hpk
  have nkn : pk ≠ pn := by rintro rfl; rw [updW_same] at hpk; cases hpk
  rw [updW_ne nkn, updW_ne nka] at hpk
  have nkf : pk ≠ pf := by rintro rfl; rw [updW_same] at hpk; cases hpk
  have k0 : W pk = none := by rw [updW_ne nkf, updW_ne nka] at hpk; exact hpk
  generalize hW1 : updW _ pk _ = W1
  have M0 : Mid C s x0 a pf pn pk [x0] [] W W1 := by
    subst hW1
    refine ⟨?_, ?_, ?_, ?_, fun q h1 h2 h3 h4 => ?_⟩
    · simp [updW_ne nka.symm, updW_same]
    · simp [updW_ne nkf.symm, updW_ne nnf.symm, updW_ne nfa, updW_same]
    · simp [updW_ne nkn.symm, updW_ne nna, updW_same, encX, encT]
    · simp [updW_same, encK, encT]
    · simp [updW_ne h1, updW_ne h2, updW_ne h3, updW_ne h4]
  have fsn : ∀ {f k : List State} {W' : Wd} {Q : QD}, Mid C s x0 a pf pn pk f k W W' → fldD C.se "nexts" (.ref a) W' Q = Q (.ref pn) W' := fun M => by simp [fldD, M.me, List.lookup]
  have fsf : ∀ {f k : List State} {W' : Wd} {Q : QD}, Mid C s x0 a pf pn pk f k W W' → fldD C.se "found" (.ref a) W' Q = Q (.ref pf) W' := fun M => by simp [fldD, M.me, List.lookup]
  have lenE : ∀ {f : List State} {n : Nat}, Expl s x0 f n → f.length ≤ 3072 := fun e => many hs e.nd fun y hy => (e.rch y hy).in hs h0
  refine ⟨_, whL_inv (fun n ρ W' => ∃ f m st ot, Expl s x0 f m ∧ m + n = 3072 ∧ Mid C s x0 a pf pn pk f (f.take m) W W' ∧ ∃ hr, ρ = [some (.ref a), some (s.o C), some x0.d, some (.ref pk), hr, st, ot]) ?_ 3072 3072 _ _ (Nat.le_refl _) ⟨[x0], 0, _, _, expl0 s x0, rfl, M0, _, rfl⟩⟩
  rintro n ρ W' Nx ⟨f, m, st, ot, e, hm, M, hr, rfl⟩ hN
  have hfl := lenE e
  have hml := e.le
  simp [fsn M, fsf M, M.nx, M.fnd, encX_len, Nat.min_eq_left hml, -State.d]
  by_cases hlt : m < f.length
  · rw [if_pos hlt]
    have hg : f[m]? = some f[m] := List.getElem?_eq_getElem hlt
    have hmem : f[m] ∈ f := List.getElem_mem hlt
    generalize f[m] = x at hg hmem
    rw [getI_nat, hg]
    have hx := (e.rch x hmem).in hs h0
    have hnk : x ∉ f.take m := by
      intro z
      obtain ⟨j, hj, ej⟩ := List.mem_iff_getElem.mp z
      rw [List.length_take] at hj
      rw [List.getElem_take] at ej
      have h2 := (List.getElem?_eq_some_iff.mp hg)
      obtain ⟨h3, h4⟩ := h2
      exact (List.pairwise_iff_getElem.mp e.nd) j m (by omega) h3 (by omega) (ej.trans h4.symm)
    simp [-State.d]
    refine ⟨s, x, rfl, hs, hx.ok, fun p hp => ?_⟩
    refine ⟨p, rfl, (stepsAt s x).map Step.d, updW_same, ?_⟩
    rw [delW_updW hp]
    have hsl : (stepsAt s x).length ≤ 12 := by
      refine Nat.le_trans (List.length_filter_le _ _) ?_
      have := hs.m5
      simp [every]; omega
    simp [sizeLine, -Step.d, -State.d]
    refine ⟨by omega, ?_⟩
    refine lcL_pure (α := Step) Step.d (fun _ => true) (fun t => nextD (t, behind s x t)) _ trivial ?_ [] ?_
    · intro t ht Kt Kf hk
      obtain ⟨ht1, ht2⟩ := stepsAt_iff.mp ht
      simp [sizeLine, -State.d, -Step.d]
      refine ⟨s, x, t, rfl, hs, hx.ok, ht1, ?_⟩
      simpa [-State.d, -Step.d] using hk
    rw [List.filter_eq_self.mpr (fun _ _ => rfl), List.nil_append]
    have hnx : D.lst ((stepsAt s x).map fun t => nextD (t, behind s x t)) = nextsD (nexts s x) := by
      unfold nextsD nexts; rw [List.map_map]; rfl
    rw [fsn M]
    refine ⟨pn, rfl, encX s (f.take m), M.nx, by rw [encX_len, List.length_take]; omega, ?_⟩
    rw [hnx, putN_encX hnk]
    have etk : f.take m ++ [x] = f.take (m + 1) := by rw [List.take_succ, hg]; rfl
    rw [etk]
    have M2 : Mid C s x0 a pf pn pk f (f.take (m + 1)) W (updW W' pn (.dn C.hs (encX s (f.take (m + 1))))) := ⟨by rw [updW_ne nna.symm]; exact M.me, by rw [updW_ne nnf.symm]; exact M.fnd, updW_same, by rw [updW_ne nkn]; exact M.kn, fun q h1 h2 h3 h4 => by rw [updW_ne h3]; exact M.ot q h1 h2 h3 h4⟩
    generalize updW W' pn _ = W2 at M2
    rw [fsn M2]
    have hxk : x ∈ f.take (m + 1) := by rw [← etk]; simp
    refine ⟨encX s (f.take (m + 1)), isN_ref.mpr M2.nx, nextsD (nexts s x), getN_encX hxk, ?_⟩
    simp only [nextsD]
    refine forL_inv (α := Step × State) nextD (fun ps ρ W' => ∃ f' st ot, Expl s x0 f' m ∧ f'[m]? = some x ∧ f'.take (m + 1) = f.take (m + 1) ∧ (∀ p ∈ nexts s x, p ∈ ps ∨ p.2 ∈ f') ∧ (∀ p ∈ ps, p ∈ nexts s x) ∧ Mid C s x0 a pf pn pk f' (f.take (m + 1)) W W' ∧ ρ = [some (.ref a), some (s.o C), some x0.d, some (.ref pk), some x.d, st, ot]) ?_ ?_ (nexts s x) _ _
      ⟨f, _, _, e, hg, rfl, fun p hp => .inl hp, fun p hp => hp, M2, rfl⟩
    · rintro ρ W3 ⟨f', st, ot, e', hg', et, hc, -, M3, rfl⟩
      refine ⟨trivial, hN (n - 1) _ _ (by omega) ⟨f', m + 1, _, _, e'.next hg' fun p hp => (hc p hp).resolve_left (by simp), by omega, by rw [et]; exact M3, _, rfl⟩⟩
    · rintro p ps ρ W3 Nx' ⟨f', st, ot, e', hg', et, hc, hps, M3, rfl⟩ hN'
      have hp := hps p List.mem_cons_self
      have hps' : ∀ q ∈ ps, q ∈ nexts s x := fun q hq => hps q (List.mem_cons_of_mem _ hq)
      have hx' : x ∈ f' := List.mem_of_getElem? hg'
      have hl' := lenE e'
      have eg := e'.grow hx' hp
      have hlg := lenE eg
      refine ⟨trivial, ?_⟩
      simp [M3.kn, getN_encK_none, -State.d, -Step.d]
      by_cases hk : p.2 ∈ f'
      · simp [hk, -State.d, -Step.d]
        refine hN' _ _ ⟨f', _, _, e', hg', et, fun q hq => ?_, hps', M3, rfl⟩
        rcases hc q hq with z | z
        · rcases List.mem_cons.mp z with rfl | z
          · exact .inr hk
          · exact .inl z
        · exact .inr z
      · simp [hk, encK_len, sizeLine, -State.d, -Step.d]
        refine ⟨by omega, ?_⟩
        rw [putN_encK hk]
        have hfd : ∀ c Q, fldD C.se "found" (.ref a) (updW W3 pk c) Q = Q (.ref pf) (updW W3 pk c) := fun c Q => by simp [fldD, updW_ne nka.symm, M3.me, List.lookup]
        simp [hfd, updW_ne nkf.symm, M3.fnd, ty_append, ty_list_ref, -State.d, -Step.d]
        have eg2 : grow1 f' p = f' ++ [p.2] := by unfold grow1; rw [if_neg hk]
        rw [eg2] at eg
        have hmf : m < f'.length := (List.getElem?_eq_some_iff.mp hg').1
        refine ⟨by omega, hN' _ _ ⟨f' ++ [p.2], _, _, eg, ?_, ?_, fun q hq => ?_, hps', ?_, rfl⟩⟩
        · rw [List.getElem?_append_left hmf]; exact hg'
        · rw [List.take_append_of_le_length (by omega)]; exact et
        · rcases hc q hq with z | z
          · rcases List.mem_cons.mp z with rfl | z
            · exact .inr (by simp)
            · exact .inl z
          · exact .inr (List.mem_append_left _ z)
        · refine ⟨?_, ?_, ?_, ?_, fun q h1 h2 h3 h4 => ?_⟩
          · rw [updW_ne nfa.symm, updW_ne nka.symm]; exact M3.me
          · rw [updW_same, List.map_append]; rfl
          · rw [updW_ne nnf, updW_ne nkn.symm]; exact M3.nx
          · rw [updW_ne nkf, updW_same]
          · rw [updW_ne h2, updW_ne h4]; exact M3.ot q h1 h2 h3 h4
  · rw [if_neg hlt]
    have hmf : m = f.length := by omega
    subst hmf
    have hF := e.found
    intro pb hpb
    have nba : pb ≠ a := by rintro rfl; rw [M.me] at hpb; cases hpb
    have nbf : pb ≠ pf := by rintro rfl; rw [M.fnd] at hpb; cases hpb
    have nbn : pb ≠ pn := by rintro rfl; rw [M.nx] at hpb; cases hpb
    have nbk : pb ≠ pk := by rintro rfl; rw [M.kn] at hpb; cases hpb
    have b0 : W pb = none := by rw [← M.ot pb nba nbf nbn nbk]; exact hpb
    simp [updW_ne nba.symm, M.me, putG, -State.d]
    have eself : Cell.ins C.se [("store", s.o C), ("state", x0.d), ("found", .ref pf), ("nexts", .ref pn), ("best", .ref pb)] = selfI C s x0 pf pn pb := rfl
    rw [eself, ms_any updW_same (by simp)]
    have hnx := M.nx
    rw [List.take_length] at hnx
    have hst : ∀ W4 : Wd, W4 a = some (selfI C s x0 pf pn pb) → (∀ q, q ≠ a → q ≠ pb → q ≠ pk → W4 q = W' q) → Stands C s x0 a pf pn pb f W4 := fun W4 h1 h2 => ⟨h1, by rw [h2 pf nfa nbf.symm nkf.symm]; exact M.fnd, by rw [h2 pn nna nbn.symm nkn.symm]; exact hnx, nbn, nbf, nba⟩
    refine ⟨a, pf, pn, pb, s, x0, f, rfl, hs, h0, hF, hst _ updW_same fun q h1 h2 h3 => by rw [updW_ne h1, updW_ne h2], by rw [updW_ne nba, updW_same], fun b hb1 hb2 => ?_⟩
    refine Dr.of (W' := delW (updW (updW (updW W' pb (.dn C.hs [])) a (selfI C s x0 pf pn pb)) pb (.dn C.hs (encT pairD b))) pk) (fun q => ?_) (h pf pn pb f b _ ⟨hF, hst _ ?_ ?_, ?_, ⟨hb1, hb2⟩, f0, n0, b0, fun q h1 h2 h3 h4 => ?_⟩)
    · by_cases z : q = pk
      · exact .inl (by rw [z, delW_same])
      · exact .inr (by rw [delW_ne z])
    · rw [delW_ne nka.symm, updW_ne nba.symm, updW_same]
    · intro q h1 h2 h3
      rw [delW_ne h3, updW_ne h2, updW_ne h1, updW_ne h2]
    · rw [delW_ne nbk, updW_same]
    · by_cases z : q = pk
      · rw [z, delW_same, k0]
      · rw [delW_ne z, updW_ne h4, updW_ne h1, updW_ne h4]; exact M.ot q h1 h2 h3 z
theorem Srch.sub {C : CC} {s : Store} {x0 : State} {a pf pn pb : Addr} {l : List State} {b : List (State × (Int × Int))} {W W1 : Wd} {c : Cell} (X : Srch C s x0 a pf pn pb l b (updW W a c) W1) (ha : W a = none) : Sub W W1 := by
  have nz : ∀ q, updW W a c q = none → W q = none := fun q h => by
    by_cases e : q = a
    · rw [e]; exact ha
    · rw [updW_ne e] at h; exact h
  intro q
  by_cases e1 : q = a
  · exact .inl (by rw [e1]; exact ha)
  by_cases e2 : q = pf
  · exact .inl (by rw [e2]; exact nz _ X.f0)
  by_cases e3 : q = pn
  · exact .inl (by rw [e3]; exact nz _ X.n0)
  by_cases e4 : q = pb
  · exact .inl (by rw [e4]; exact nz _ X.b0)
  exact .inr (by rw [X.ot q e1 e2 e3 e4, updW_ne e1])
theorem sub_upd2 {W W1 : Wd} {q : Addr} {c : Cell} (h : Sub W W1) : Sub (updW W q c) (updW W1 q c) := fun r => by
  by_cases e : r = q
  · subst e; exact .inr (by rw [updW_same, updW_same])
  · rw [updW_ne e, updW_ne e]; exact h r
theorem sub_none {W W1 : Wd} {q : Addr} (h : Sub W W1) (hq : W1 q = Option.none) : W q = Option.none := by
  rcases h q with e | e
  · exact e
  · rw [e]; exact hq
theorem Stands.upd {C : CC} {s : Store} {x0 : State} {a pf pn pb p : Addr} {l : List State} {W : Wd} {c : Cell} (H : Stands C s x0 a pf pn pb l W) (hp : W p = none) : Stands C s x0 a pf pn pb l (updW W p c) :=
  ⟨by rw [updW_ne (ne_of_W H.me hp)]; exact H.me, by rw [updW_ne (ne_of_W H.fnd hp)]; exact H.fnd, by rw [updW_ne (ne_of_W H.nx hp)]; exact H.nx, H.bn, H.bf, H.ba⟩
/-! ### the least -/
def sp_least (C : CC) : SpD := fun ds W Q _ => ∃ (s : Store), ds = [s.o C] ∧ s.Ok ∧ (bestO s (begin_ s) = none → ∀ q, W q = none → Q (.tup [.str "none", .ref q]) (updW W q (.lst ((paperOf s (begin_ s)).map papD)))) ∧
  ∀ v, bestO s (begin_ s) = some v → ∀ p q ts W', W p = none → W q = none → p ≠ q → PlanOf s (begin_ s) ts v → ts.length ≤ 3072 → W' p = some (.lst (ts.map Step.d)) → W' q = some (.lst ((paperOf s (begin_ s)).map papD)) → (∀ r, r ≠ p → r ≠ q → W' r = W r) → Q (.tup [.str "plan", .ref p, .int v.1, .ref q]) W'
def td_least (C : CC) : TSd :=
  (tsSeq (tsAsg (tdMake C.se (sp_Search_init C) (tdCons (tdVar 0) (tdCons (tdCall (sp_begin C) (tdCons (tdVar 0) tdNil)) tdNil))) (.name 1))
    (tsSeq (tsIf (tdB (tdOp (dInN C.hs true) (tdCall (sp_begin C) (tdCons (tdVar 0) tdNil)) (tdFld C.se "best" (tdVar 1)))) (tsRet (tdTup (tdCons (tdC (.str "none")) (tdCons (tdMeth C.se "paper" (sp_Search_paper C) (tdVar 1) tdNil) tdNil)))) tsNext)
    (tsRet (tdTup (tdCons (tdC (.str "plan")) (tdCons (tdMeth C.se "plan" (sp_Search_plan C) (tdVar 1) tdNil) (tdCons (tdOp dIx (tdOp (dIxN C.hs) (tdFld C.se "best" (tdVar 1)) (tdCall (sp_begin C) (tdCons (tdVar 0) tdNil))) (tdC (.int 0))) (tdCons (tdMeth C.se "paper" (sp_Search_paper C) (tdVar 1) tdNil) tdNil))))))))
theorem q_least (C : CC) : Qd_ (sp_least C) (td_least C) 2 := by
  rintro ds W Qd Ed ⟨s, rfl, hs, h0, h1⟩
  simp [td_least, sizeLine, -State.d]
  intro a ha
  have hbi := begin_in hs
  refine ⟨a, s, begin_ s, rfl, updW_same, hs, hbi, ?_⟩
  intro pf pn pb l b W1 X
  have hx0 : begin_ s ∈ l := (X.fnd.mem _).mpr .start
  have hlen := many hs X.fnd.nd (X.fnd.in hs hbi)
  have hsub := X.sub ha
  have eb := best_bestO X.bt hx0
  simp [fs_best X.st.me, X.tb, getN_enc, ms_any X.st.me, -State.d]
  cases e : lookT b (begin_ s) with
  | none =>
    simp
    refine ⟨a, pf, pn, pb, s, begin_ s, l, b, rfl, hs, hbi, X.fnd, X.st, X.tb, X.bt, fun q hq => ?_⟩
    exact Dr.of (sub_upd2 hsub) (h0 (by rw [← eb]; exact e) q (sub_none hsub hq))
  | some v =>
    simp [-State.d]
    have hvl := best_len X.fnd.closed X.bt.on hx0 e
    refine ⟨a, pf, pn, pb, s, begin_ s, l, b, v, rfl, hs, hbi, X.fnd, X.st, X.tb, X.bt, e, fun p ts hp hP => ?_⟩
    have st2 := X.st.upd (c := .lst (ts.map Step.d)) hp
    have tb2 : updW W1 p (.lst (ts.map Step.d)) pb = some (.dn C.hs (encT pairD b)) := by rw [updW_ne (ne_of_W X.tb hp)]; exact X.tb
    simp [fs_best st2.me, tb2, getN_enc, e, ms_any st2.me, -State.d]
    refine ⟨a, pf, pn, pb, s, begin_ s, l, b, rfl, hs, hbi, X.fnd, st2, tb2, X.bt, fun q hq => ?_⟩
    have hqp : q ≠ p := by rintro rfl; rw [updW_same] at hq; cases hq
    rw [updW_ne hqp] at hq
    refine Dr.of (sub_upd2 (sub_upd2 hsub)) (h1 v (by rw [← eb]; exact e) p q ts _ (sub_none hsub hp) (sub_none hsub hq) hqp.symm hP ?_ ?_ updW_same ?_)
    · have := hP.len; omega
    · rw [updW_ne hqp.symm, updW_same]
    · intro r h1 h2
      rw [updW_ne h2, updW_ne h1]
end AI

/-! SR5: papers looked over; shifts. -/
namespace AI
open PySem PySem.Spec PyProof.Rows L2 DL
open PySem.W (dataLe alike keyToks AllAlike Sortable sortLe sortLe_total toks_eqv)
def keepStep (T : State → Option (Option Int)) (o : Option Int) (p : Step × State) : Bool := match T p.2, o with
  | none, _ => false
  | some none, _ => true
  | some (some _), none => false
  | some (some m), some n => decide (n ≤ m + sh p.1)
def overO : Option Int → Bool
  | none => true
  | some n => decide (0 < n)
def keepsF (s : Store) (T : State → Option (Option Int)) (o : Option Int) (x : State) : Bool := !(isEnd s x && overO o) && (nexts s x).all (keepStep T o)
def sp_keeps (C : CC) : SpD := fun ds W Q _ => ∃ (s : Store) (t : List (State × Option Int)) (x : State) (o : Option Int), ds = [s.o C, .dn C.hs (encT optI t), x.d] ∧ s.Ok ∧ x.In s ∧ lookT t x = some o ∧ Q (.bl (keepsF s (lookT t) o x)) W
theorem isNon_optI (o : Option Int) : isNon (optI o) = decide (o = none) := by cases o <;> simp
def td_keeps (C : CC) : TSd :=
  (tsSeq (tsAsg (tdOp (dIxN C.hs) (tdVar 1) (tdVar 2)) (.name 3))
    (tsSeq (tsIf (tdAnd (tdB (tdCall (sp_is_end C) (tdCons (tdVar 0) (tdCons (tdVar 2) tdNil)))) (tdOr (tdB (tdOp (dIs false) (tdVar 3) (tdC .non))) (tdB (tdOp dGt (tdVar 3) (tdC (.int 0)))))) (tsRet (tdC (.bl false))) tsNext)
    (tsSeq (tsFor (tiSeq (tdFrz (tdCall (sp_steps_at C) (tdCons (tdVar 0) (tdCons (tdVar 2) tdNil))))) (.name 4) (tsSeq (tsAsg (tdCall (sp_behind C) (tdCons (tdVar 0) (tdCons (tdVar 2) (tdCons (tdVar 4) tdNil)))) (.name 5))
    (tsSeq (tsIf (tdOr (tdB (tdOp (dInN C.hs true) (tdVar 5) (tdVar 1))) (tdAnd (tdB (tdOp (dIs true) (tdOp (dIxN C.hs) (tdVar 1) (tdVar 5)) (tdC .non))) (tdB (tdOp (dIs false) (tdVar 3) (tdC .non))))) (tsRet (tdC (.bl false))) tsNext)
    (tsIf (tdAnd (tdB (tdOp (dIs true) (tdVar 3) (tdC .non))) (tdAnd (tdB (tdOp (dIs true) (tdOp (dIxN C.hs) (tdVar 1) (tdVar 5)) (tdC .non))) (tdB (tdOp dGt (tdVar 3) (tdOp dAdd (tdOp (dIxN C.hs) (tdVar 1) (tdVar 5)) (tdCall (sp_shifts_of C) (tdCons (tdVar 4) tdNil))))))) (tsRet (tdC (.bl false))) tsNext))))
    (tsRet (tdC (.bl true))))))
theorem q_keeps (C : CC) : Q_ (sp_keeps C) (td_keeps C) 6 := by
  rintro ds W Qd Ed ⟨s, t, x, o, rfl, hs, hx, ho, h⟩
  have hsl : (stepsAt s x).length ≤ 12 := by
    refine Nat.le_trans (List.length_filter_le _ _) ?_
    have := hs.m5
    simp [every]; omega
  simp [td_keeps, getN_enc, ho, isNon_optI, -State.d]
  refine sp_is_end_s hs hx.ok ?_
  by_cases hE : (isEnd s x && overO o) = true
  · have hk : keepsF s (lookT t) o x = false := by unfold keepsF; rw [hE]; rfl
    rw [hk] at h
    rw [Bool.and_eq_true] at hE
    rw [hE.1]
    cases o with
    | none => simpa using h
    | some n =>
      have : 0 < n := by simpa [overO] using hE.2
      simpa [this] using h
  have hk : keepsF s (lookT t) o x = (nexts s x).all (keepStep (lookT t) o) := by
    unfold keepsF
    cases e : (isEnd s x && overO o) with
    | true => exact absurd e hE
    | false => rfl
  rw [hk] at h
  have hE2 : isEnd s x = false ∨ ∃ n, o = some n ∧ ¬ 0 < n := by
    cases e : isEnd s x with
    | false => exact .inl rfl
    | true =>
      rw [e, Bool.true_and] at hE
      cases o with
      | none => exact absurd rfl hE
      | some n => exact .inr ⟨n, rfl, by simpa [overO] using hE⟩
  rcases hE2 with e | ⟨n, rfl, hn⟩
  · rw [e]
    simp only [Bool.false_eq_true, if_false]
    refine ⟨s, x, rfl, hs, hx.ok, fun p hp => ?_⟩
    refine ⟨p, rfl, (stepsAt s x).map Step.d, updW_same, ?_⟩
    rw [delW_updW hp]
    refine forL_inv (α := Step) Step.d (fun ts ρ W' => W' = W ∧ (∀ u ∈ ts, u ∈ stepsAt s x) ∧ Qd (.bl ((ts.map fun u => (u, behind s x u)).all (keepStep (lookT t) o))) W ∧ ∃ st ot, ρ = [some (s.o C), some (.dn C.hs (encT optI t)), some x.d, some (optI o), st, ot]) ?_ ?_ (stepsAt s x) _ _
      ⟨rfl, fun u hu => hu, h, _, _, rfl⟩
    · rintro ρ W' ⟨rfl, -, h, st, ot, rfl⟩
      exact ⟨trivial, by simpa using h⟩
    · rintro u ts ρ W' Nx ⟨rfl, hu, h, st, ot, rfl⟩ hN
      have hu0 := stepsAt_iff.mp (hu u List.mem_cons_self)
      refine ⟨trivial, ?_⟩
      simp [-State.d, -Step.d]
      refine ⟨s, x, u, rfl, hs, hx.ok, hu0.1, ?_⟩
      have hN2 : ∀ a b, Qd (.bl ((ts.map fun u => (u, behind s x u)).all (keepStep (lookT t) o))) W' → Nx [some (s.o C), some (.dn C.hs (encT optI t)), some x.d, some (optI o), a, b] W' := fun a b hq => hN _ _ ⟨rfl, fun v hv => hu v (List.mem_cons_of_mem _ hv), hq, _, _, rfl⟩
      simp only [List.map_cons, List.all_cons] at h
      generalize hy : behind s x u = y at h ⊢
      simp [getN_enc, isNon_optI, -State.d, -Step.d]
      cases ev : lookT t y with
      | none => simpa [keepStep, ev] using h
      | some o2 =>
        cases o2 with
        | none =>
          simp [isNon_optI, -State.d, -Step.d]
          exact hN2 _ _ (by simpa [keepStep, ev] using h)
        | some m =>
          cases o with
          | none => simpa [keepStep, ev] using h
          | some n =>
            simp [-State.d, -Step.d]
            by_cases hc : m + sh u < n
            · have hc2 : ¬ n ≤ m + sh u := by omega
              simpa [keepStep, ev, hc, hc2, getN_enc] using h
            · have hc2 : n ≤ m + sh u := by omega
              simp [ev, hc, getN_enc, -State.d, -Step.d]
              exact hN2 _ _ (by simpa [keepStep, ev, hc2] using h)
  · cases e : isEnd s x
    all_goals simp [hn, -State.d]
    all_goals
      refine ⟨s, x, rfl, hs, hx.ok, fun p hp => ?_⟩
      refine ⟨p, rfl, (stepsAt s x).map Step.d, updW_same, ?_⟩
      rw [delW_updW hp]
      refine forL_inv (α := Step) Step.d (fun ts ρ W' => W' = W ∧ (∀ u ∈ ts, u ∈ stepsAt s x) ∧ Qd (.bl ((ts.map fun u => (u, behind s x u)).all (keepStep (lookT t) (some n)))) W ∧ ∃ st ot, ρ = [some (s.o C), some (.dn C.hs (encT optI t)), some x.d, some (.int n), st, ot]) ?_ ?_ (stepsAt s x) _ _
        ⟨rfl, fun u hu => hu, h, _, _, rfl⟩
      · rintro ρ W' ⟨rfl, -, h, st, ot, rfl⟩
        exact ⟨trivial, by simpa using h⟩
      · rintro u ts ρ W' Nx ⟨rfl, hu, h, st, ot, rfl⟩ hN
        have hu0 := stepsAt_iff.mp (hu u List.mem_cons_self)
        refine ⟨trivial, ?_⟩
        simp [-State.d, -Step.d]
        refine ⟨s, x, u, rfl, hs, hx.ok, hu0.1, ?_⟩
        have hN2 : ∀ a b, Qd (.bl ((ts.map fun u => (u, behind s x u)).all (keepStep (lookT t) (some n)))) W' → Nx [some (s.o C), some (.dn C.hs (encT optI t)), some x.d, some (.int n), a, b] W' := fun a b hq => hN _ _ ⟨rfl, fun v hv => hu v (List.mem_cons_of_mem _ hv), hq, _, _, rfl⟩
        simp only [List.map_cons, List.all_cons] at h
        generalize hy : behind s x u = y at h ⊢
        simp [getN_enc, isNon_optI, -State.d, -Step.d]
        cases ev : lookT t y with
        | none => simpa [keepStep, ev] using h
        | some o2 =>
          cases o2 with
          | none =>
            simp [isNon_optI, -State.d, -Step.d]
            exact hN2 _ _ (by simpa [keepStep, ev] using h)
          | some m =>
            simp [-State.d, -Step.d]
            by_cases hc : m + sh u < n
            · have hc2 : ¬ n ≤ m + sh u := by omega
              simpa [keepStep, ev, hc, hc2, getN_enc] using h
            · have hc2 : n ≤ m + sh u := by omega
              simp [ev, hc, getN_enc, -State.d, -Step.d]
              exact hN2 _ _ (by simpa [keepStep, ev, hc2] using h)
def sp_shifts (C : CC) : SpD := fun ds W Q _ => ∃ (s : Store) (d : D) (ts : List Step), ds = [s.o C, d] ∧ isL W d (ts.map Step.d) ∧ s.Ok ∧ ts.length ≤ 100000 ∧ (∀ t ∈ ts, t.Ok s) ∧ Q (.int (shs ts)) W
def td_shifts (C : CC) : TSd :=
  (tsSeq (tsFor (tiSeq (tdVar 1)) (.name 2) (tsDrop (tdCall (sp_need_step C) (tdCons (tdVar 0) (tdCons (tdVar 2) tdNil)))))
    (tsRet (tdCB dSumI (tdCons (tdLc (tiSeq (tdVar 1)) (.name 2) tdYes (tdCall (sp_shifts_of C) (tdCons (tdVar 2) tdNil)) [2]) tdNil))))
theorem q_shifts (C : CC) : Q_ (sp_shifts C) (td_shifts C) 3 := by
  rintro ds W Qd Ed ⟨s, d, ts, rfl, hd, hs, hl, hok, h⟩
  have hm := hs.m5
  simp only [td_shifts, tsSeq, tsFor]
  refine hd.seq (by simp) ?_
  refine forL_inv (α := Step) Step.d (fun as ρ W' => W' = W ∧ (∀ t ∈ as, Step.Ok s t) ∧ ∃ a, ρ = [some (s.o C), some d, a]) ?_ ?_ _ _ _ ⟨rfl, hok, _, rfl⟩
  · rintro ρ W' ⟨rfl, _, a, rfl⟩
    refine ⟨hd.gl, ?_⟩
    simp [-Step.d]
    have hsum : (ts.map sh).sum = shs ts := by
      clear h hd hok hl
      induction ts with
      | nil => rfl
      | cons t ts ih => simp [shs, ih]
    rcases hd with rfl | ⟨b, rfl, hb⟩
    · refine ⟨by simp [sizeLine]; omega, lcL_pure (α := Step) Step.d (fun _ => true) (fun t => .int (sh t)) _ trivial ?_ [] ?_⟩
      · intro t _ Kt Kf hk
        simpa [-Step.d] using hk
      · exact ⟨ts.map sh, by simp [Function.comp_def], by rw [hsum]; exact h⟩
    · simp only [hb]
      refine ⟨by simp [sizeLine]; omega, lcL_pure (α := Step) Step.d (fun _ => true) (fun t => .int (sh t)) _ hb ?_ [] ?_⟩
      · intro t _ Kt Kf hk
        simpa [-Step.d] using hk
      · exact ⟨ts.map sh, by simp [Function.comp_def], by rw [hsum]; exact h⟩
  · rintro t as ρ W' Nx ⟨rfl, ht, a, rfl⟩ hN
    refine ⟨hd.gl, ?_⟩
    simp [-Step.d]
    exact sp_need_step_s (ht t List.mem_cons_self) (by omega) (hN _ _ ⟨rfl, fun u hu => ht u (List.mem_cons_of_mem _ hu), _, rfl⟩)
theorem sp_shifts_s {C : CC} {s : Store} {d : D} {ts : List Step} {W : Wd} {Q : QD} {E : XD} (hd : isL W d (ts.map Step.d)) (hs : s.Ok) (hl : ts.length ≤ 100000) (hok : ∀ t ∈ ts, t.Ok s) (h : Q (.int (shs ts)) W) : sp_shifts C [s.o C, d] W Q E := ⟨s, d, ts, rfl, hd, hs, hl, hok, h⟩
/-! ### a paper shows -/
abbrev Pap := List (State × Option Int)
def mergeT (pp : Pap) : Pap := pp.foldl (fun acc q => putT acc q.1 q.2) []
theorem mergeN_enc : ∀ (pp acc : Pap), mergeN (encT optI acc) (encT optI pp) = encT optI (pp.foldl (fun acc q => putT acc q.1 q.2) acc)
  | [], acc => rfl
  | q :: pp, acc => by
    have := mergeN_enc pp (putT acc q.1 q.2)
    rw [← putN_enc] at this
    exact this
theorem mergeT_sub {α : Type} : ∀ (pp acc : List (State × α)) (x : State), x ∈ (pp.foldl (fun acc q => putT acc q.1 q.2) acc).map (·.1) → x ∈ acc.map (·.1) ∨ x ∈ pp.map (·.1)
  | [], acc, x, h => .inl h
  | q :: pp, acc, x, h => by
    rcases mergeT_sub pp (putT acc q.1 q.2) x h with z | z
    · rw [putT_keys] at z
      split at z
      · exact .inl z
      · rcases List.mem_append.mp z with z | z
        · exact .inl z
        · exact .inr (by rw [List.mem_singleton.mp z]; simp)
    · exact .inr (by rw [List.map_cons]; exact List.mem_cons_of_mem _ z)
theorem mergeT_mem (pp : Pap) (x : State) (h : x ∈ (mergeT pp).map (·.1)) : x ∈ pp.map (·.1) := by
  rcases mergeT_sub pp [] x h with z | z
  · simp at z
  · exact z
theorem merge_nodup : ∀ (pp acc : Pap), (acc.map (·.1) ++ pp.map (·.1)).Nodup → pp.foldl (fun acc q => putT acc q.1 q.2) acc = acc ++ pp
  | [], acc, _ => by simp
  | q :: pp, acc, h => by
    have hq : ¬ (lookT acc q.1).isSome = true := by
      rw [lookT_mem]
      intro z
      rw [List.nodup_append] at h
      exact h.2.2 _ z q.1 (by simp) rfl
    have e : putT acc q.1 q.2 = acc ++ [q] := by unfold putT; rw [if_neg hq]
    rw [List.foldl_cons, e, merge_nodup pp (acc ++ [q]) (by simpa using h)]
    simp
theorem mergeT_nodup {pp : Pap} (h : (pp.map (·.1)).Nodup) : mergeT pp = pp := by
  have := merge_nodup pp [] (by simpa using h)
  simpa [mergeT] using this
/-- the numbers are enough -/
def enough (number many : Option Int) : Bool := match number with
  | none => true
  | some n => match many with
    | none => false
    | some m => decide (m ≤ n)
def keptAll (s : Store) (t : Pap) : Bool := t.all fun q => keepsF s (lookT t) ((lookT t q.1).getD none) q.1
def showsF (s : Store) (pp : Pap) (many : Option Int) : Bool := decide ((mergeT pp).length = pp.length) && match lookT (mergeT pp) (begin_ s) with
  | none => false
  | some o => keptAll s (mergeT pp) && enough o many
def sp_shows (C : CC) : SpD := fun ds W Q _ => ∃ (s : Store) (d : D) (pp : Pap) (many : Option Int), ds = [s.o C, d, optI many] ∧ s.Ok ∧ viewW W d = .lst (pp.map papD) ∧ (∀ q ∈ pp, q.1.In s) ∧ pp.length ≤ 1000000 ∧ Q (.bl (showsF s pp many)) W
theorem papD_enc (pp : Pap) : pp.map papD = (encT optI pp).map fun p => .tup [dOf p.1, p.2] := by
  unfold encT
  rw [List.map_map]
  refine List.map_congr_left fun q _ => ?_
  simp [papD, -State.d]
theorem len_of_view {W : Wd} {d : D} {xs : List D} (h : viewW W d = .lst xs) : lenD W d = some xs.length := by
  cases d with
  | lst ys => simp at h; subst h; rfl
  | ref a =>
    unfold viewW at h
    simp only at h
    split at h
    · rename_i e; cases h; simp [e]
    · cases h
  | _ => cases h
def td_shows (C : CC) : TSd :=
  (tsSeq (tsAsg (tdFrzN C.hs (tdCB (dDictN C.hs) (tdCons (tdVar 1) tdNil))) (.name 3))
    (tsSeq (tsIf (tdOr (tdB (tdOp dNe (tdCB (dLenN C.hs) (tdCons (tdVar 3) tdNil)) (tdCB dLen (tdCons (tdVar 1) tdNil)))) (tdB (tdOp (dInN C.hs true) (tdCall (sp_begin C) (tdCons (tdVar 0) tdNil)) (tdVar 3)))) (tsRet (tdC (.bl false))) tsNext)
    (tsSeq (tsIf (tdB (tdOp dNe (tdLc (tiKeysN C.hs (tdVar 3)) (.name 4) (tdNotT (tdB (tdCall (sp_keeps C) (tdCons (tdVar 0) (tdCons (tdVar 3) (tdCons (tdVar 4) tdNil)))))) (tdVar 4) [4]) (tdLst tdNil))) (tsRet (tdC (.bl false))) tsNext)
    (tsSeq (tsAsg (tdOp (dIxN C.hs) (tdVar 3) (tdCall (sp_begin C) (tdCons (tdVar 0) tdNil))) (.name 5))
    (tsRet (tdOrV (tdOp (dIs false) (tdVar 5) (tdC .non)) (tdAndV (tdOp (dIs true) (tdVar 2) (tdC .non)) (tdOp dGe (tdVar 5) (tdVar 2)))))))))
theorem q_shows (C : CC) : Q_ (sp_shows C) (td_shows C) 6 := by
  rintro ds W Qd Ed ⟨s, d, pp, many, rfl, hs, hv, hin, hlen, h⟩
  simp [td_shows, -State.d]
  refine ⟨encT optI pp, by rw [hv, papD_enc], ?_, fun p hp => ?_⟩
  · intro k b hb
    obtain ⟨q, _, e⟩ := List.mem_map.mp hb
    cases e
    exact ⟨key_depth _, _, rfl⟩
  · have em := mergeN_enc pp []
    have e0 : encT optI [] = [] := rfl
    rw [e0] at em
    rw [em]
    show ∃ x, updW W p (Cell.dn C.hs (encT optI (mergeT pp))) p = some (Cell.dn C.hs x) ∧ _
    refine ⟨_, updW_same, ?_⟩
    have edel : ∀ c, delW (updW W p c) p = W := fun c => delW_updW hp
    rw [show List.foldl (fun acc q => putT acc q.1 q.2) [] pp = mergeT pp from rfl]
    simp only [edel]
    rw [len_of_view hv, List.length_map, encT_len]
    simp only
    unfold showsF at h
    by_cases el : (mergeT pp).length = pp.length
    · have el' : ((mergeT pp).length : Int) = (pp.length : Int) := by omega
      rw [if_pos el']
      rw [decide_eq_true el, Bool.true_and] at h
      rw [getN_enc]
      cases eb : lookT (mergeT pp) (begin_ s) with
      | none => rw [eb] at h; simpa using h
      | some o =>
        rw [eb] at h
        simp only at h
        simp only [Option.map_some, reduceCtorEq, if_false]
        refine ⟨by unfold sizeLine; omega, ?_⟩
        have em2 : (encT optI (mergeT pp)).map (fun p => dOf p.1) = (mergeT pp).map fun q => q.1.d := by
          unfold encT
          rw [List.map_map]
          refine List.map_congr_left fun q _ => ?_
          simp [-State.d]
        rw [em2]
        refine lcL_pure (α := State × Option Int) (fun q => q.1.d) (fun q => !keepsF s (lookT (mergeT pp)) ((lookT (mergeT pp) q.1).getD none) q.1) (fun q => q.1.d) (mergeT pp) trivial ?_ [] ?_
        · intro q hq Kt Kf hk
          have hm : q.1 ∈ (mergeT pp).map (·.1) := List.mem_map.mpr ⟨q, hq, rfl⟩
          obtain ⟨q', hq', eq⟩ := List.mem_map.mp (mergeT_mem pp q.1 hm)
          have hi := hin q' hq'
          rw [eq] at hi
          have hl := lookT_mem.mpr hm
          cases eo : lookT (mergeT pp) q.1 with
          | none => rw [eo] at hl; cases hl
          | some o2 =>
            rw [eo] at hk
            simp [-State.d]
            refine ⟨s, mergeT pp, q.1, o2, rfl, hs, hi, eo, ?_⟩
            simpa [-State.d] using hk
        · rw [List.nil_append]
          refine ⟨okL_map _ fun q _ => okD_state 61 q.1, ?_⟩
          by_cases ek : keptAll s (mergeT pp) = true
          · have ef : (mergeT pp).filter (fun q => !keepsF s (lookT (mergeT pp)) ((lookT (mergeT pp) q.1).getD none) q.1) = [] := by
              rw [List.filter_eq_nil_iff]
              intro q hq
              have := (List.all_eq_true.mp ek) q hq
              simp [this]
            rw [ef]
            rw [ek] at h
            simp [getN_enc, eb, isNon_optI]
            cases o with
            | none => simpa [enough] using h
            | some n =>
              cases many with
              | none => simpa [enough] using h
              | some m => simpa [enough] using h
          · have ek2 : keptAll s (mergeT pp) = false := by simpa using ek
            rw [ek2, Bool.false_and] at h
            cases ef : (mergeT pp).filter (fun q => !keepsF s (lookT (mergeT pp)) ((lookT (mergeT pp) q.1).getD none) q.1) with
            | nil =>
              refine absurd ?_ ek
              unfold keptAll
              rw [List.all_eq_true]
              intro q hq
              have := (List.filter_eq_nil_iff.mp ef) q hq
              simpa using this
            | cons q qs => simpa [-State.d] using h
    · have el' : ¬ ((mergeT pp).length : Int) = (pp.length : Int) := by omega
      rw [if_neg el']
      rw [decide_eq_false el, Bool.false_and] at h
      exact h
theorem mergeT_len_le : ∀ (pp acc : Pap), (pp.foldl (fun acc q => putT acc q.1 q.2) acc).length ≤ acc.length + pp.length
  | [], acc => by simp
  | q :: pp, acc => by
    have := mergeT_len_le pp (putT acc q.1 q.2)
    have := putT_len acc q.1 q.2
    rw [List.foldl_cons, List.length_cons]; omega
end AI

/-! SR6: the law's own table and paper. -/
namespace AI
open PySem PySem.Spec PyProof.Rows L2 DL
open PySem.W (dataLe alike keyToks AllAlike Sortable sortLe sortLe_total toks_eqv)
theorem sorted_full : ∀ (m : Nat) (b : Int) {xs : List Int}, xs.Pairwise (· < ·) → (∀ x ∈ xs, b ≤ x ∧ x < b + m) → xs.length = m → xs = (List.range m).map fun k => b + ((k : Nat) : Int)
  | 0, b, [], _, _, _ => rfl
  | 0, b, x :: xs, _, h, e => by simp at e
  | m + 1, b, [], _, _, e => by simp at e
  | m + 1, b, x :: xs, hp, h, e => by
    have hx := h x List.mem_cons_self
    have hp' := List.pairwise_cons.mp hp
    have hb : x = b := by
      by_cases z : x = b
      · exact z
      · have hle := sorted_len (b + 1) (n := m) hp fun y hy => by
          have h2 := h y hy
          rcases List.mem_cons.mp hy with rfl | hy
          · omega
          · have h1 := hp'.1 y hy
            omega
        omega
    subst hb
    have ih := sorted_full m (x + 1) hp'.2 (fun y hy => by
      have h1 := hp'.1 y hy
      have h2 := (h y (List.mem_cons_of_mem _ hy)).2
      omega) (by simpa using e)
    rw [List.range_succ_eq_map, List.map_cons, List.map_map, ih]
    simp [Function.comp_def]
    intro a _
    omega
theorem end_iff {s : Store} {x : State} (hx : x.Ok s) : eqDL (x.done.map D.int) ((List.range s.wishes.length).map fun i => D.int (i : Nat)) = decide (x.done.length = s.wishes.length) := by
  have e : (List.range s.wishes.length).map (fun k => D.int (k : Nat)) = ((List.range s.wishes.length).map fun k => ((k : Nat) : Int)).map D.int := by rw [List.map_map]; rfl
  rw [e, eqDL_ints, Bool.eq_iff_iff, decide_eq_true_iff, decide_eq_true_iff]
  constructor
  · intro h; rw [h]; simp
  · intro h
    have := sorted_full s.wishes.length 0 hx.so (fun y hy => by have := hx.dn y hy; unfold InW at this; omega) h
    simpa using this
def sp_l_is_end (C : CC) : SpD := fun ds W Q _ => ∃ (s : Store) (x : State), ds = [s.t, x.d] ∧ s.Ok ∧ x.Ok s ∧ Q (.bl (isEnd s x)) W
def td_l_is_end (C : CC) : TSd :=
  (tsRet (tdAndV (tdOp dEq (tdCB dList (tdCons (tdOp dIx (tdVar 1) (tdC (.int 1))) tdNil)) (tdListRg (tdCB dLen (tdCons (tdOp dIx (tdVar 0) (tdC (.int 2))) tdNil)))) (tdOp dEq (tdOp dIx (tdVar 1) (tdC (.int 2))) (tdTup tdNil))))
theorem q_l_is_end (C : CC) : Q_ (sp_l_is_end C) (td_l_is_end C) 2 := by
  rintro ds W Qd Ed ⟨s, x, rfl, hs, hx, h⟩
  simp [td_l_is_end, sizeLine]
  have := hs.m5
  refine ⟨by omega, ?_⟩
  rw [end_iff hx]
  unfold isEnd at h
  by_cases e : x.done.length = s.wishes.length
  · simpa [e] using h
  · simpa [e] using h
theorem sp_l_is_end_s {C : CC} {s : Store} {x : State} {W : Wd} {Q : QD} {E : XD} (hs : s.Ok) (hx : x.Ok s) (h : Q (.bl (isEnd s x)) W) : sp_l_is_end C [s.t, x.d] W Q E := ⟨s, x, rfl, hs, hx, h⟩
/-! ### the table: all states found, each with what is known -/
def optP : Option (Int × Int) → D
  | none => .non
  | some v => pairD v
theorem isNon_optP (o : Option (Int × Int)) : isNon (optP o) = decide (o = none) := by cases o <;> simp [optP]
def encG (f : List State) (g : Tab) : ND := encT optP (f.map fun y => (y, g y))
theorem encG_len (f : List State) (g : Tab) : (encG f g).length = f.length := by simp [encG, encT]
theorem getN_encG {f : List State} {g : Tab} {x : State} (h : x ∈ f) : getN (encG f g) x.key = some (optP (g x)) := by
  unfold encG
  rw [getN_enc, lookT_map, if_pos h]; rfl
theorem getN_encG_none (f : List State) (g : Tab) (x : State) : getN (encG f g) x.key = none ↔ x ∉ f := by
  unfold encG
  rw [getN_enc, lookT_map]
  split <;> simp_all
theorem putN_encG {f : List State} {g : Tab} {x : State} (h : x ∈ f) (v : Int × Int) : putN (encG f g) x.key (pairD v) = encG f (fput g x v) := by
  unfold encG
  have := putN_enc optP x (some v) (f.map fun y => (y, g y))
  rw [show optP (some v) = pairD v from rfl] at this
  rw [this]
  unfold putT
  rw [lookT_map, if_pos h]
  simp only [Option.isSome_some, if_true, List.map_map]
  congr 1
  refine List.map_congr_left fun y _ => ?_
  simp only [Function.comp_apply, fput]
  split
  · rename_i e; rw [e]
  · rfl
theorem putN_encG_new {f : List State} {x : State} (h : x ∉ f) : putN (encG f fun _ => none) x.key .non = encG (f ++ [x]) fun _ => none := by
  unfold encG
  have := putN_enc optP x none (f.map fun y => (y, (none : Option (Int × Int))))
  rw [show optP none = .non from rfl] at this
  rw [this]
  unfold putT
  rw [lookT_map, if_neg h]
  simp
def Step.w : Step → Str
  | .wait => "wait"
  | .shift _ => "shift"
  | .ent _ => "in"
  | .out _ => "out"
  | .fin _ => "do"
theorem ix_step (t : Step) (W : Wd) (Q : QD) : dIx t.d (.int 0) W Q = Q (.str t.w) W := by cases t <;> simp [Step.w]
theorem w_shift (t : Step) : t.w = Str.ofString "shift" ↔ sh t = 1 := by cases t <;> simp [Step.w, sh]
theorem sh_if (t : Step) : (if sh t = 1 then (1 : Int) else 0) = sh t := by cases t <;> rfl
structure MidL (C : CC) (s : Store) (pf pb pn : Addr) (f k : List State) (g : Tab) (W W' : Wd) : Prop where
  fnd : W' pf = some (.lst (f.map State.d))
  nx : W' pn = some (.dn C.hs (encX s k))
  kn : W' pb = some (.dn C.hs (encG f g))
  ot : ∀ q, q ≠ pf → q ≠ pb → q ≠ pn → W' q = W q
def sp_l_table (C : CC) : SpD := fun ds W Q _ => ∃ (s : Store) (x : State), ds = [s.t, x.d] ∧ s.Ok ∧ x.In s ∧ ∀ l, Found s x l → (∀ y ∈ l, IsBest s y (bestO s y)) → Q (.dn C.hs (encG l (bestO s))) W
def td_l_table (C : CC) : TSd :=
  (tsSeq (tsAsg (tdLstM (tdCons (tdVar 1) tdNil)) (.name 2))
    (tsSeq (tsAsg (tdDisp1N C.hs (tdVar 1) (tdC .non)) (.name 3))
    (tsSeq (tsAsg (tdDisp0N C.hs) (.name 4))
    (tsSeq (tsWhile (tdB (tdOp dLt (tdCB (dLenN C.hs) (tdCons (tdVar 4) tdNil)) (tdCB dLen (tdCons (tdVar 2) tdNil)))) (tsSeq (tsAsg (tdOp dIx (tdVar 2) (tdCB (dLenN C.hs) (tdCons (tdVar 4) tdNil))) (.name 5))
    (tsSeq (tsDn C.hs (tdVar 4) (tdVar 5) (tdLc (tiSeq (tdCall (sp_l_steps C) (tdCons (tdVar 0) (tdCons (tdVar 5) tdNil)))) (.name 6) tdYes (tdTup (tdCons (tdVar 6) (tdCons (tdCall (sp_l_behind C) (tdCons (tdVar 0) (tdCons (tdVar 5) (tdCons (tdVar 6) tdNil)))) tdNil))) [6]))
    (tsFor (tiSeq (tdOp (dIxN C.hs) (tdVar 4) (tdVar 5))) (.tup [6, 7]) (tsIf (tdB (tdOp (dInN C.hs true) (tdVar 7) (tdVar 3))) (tsSeq (tsDn C.hs (tdVar 3) (tdVar 7) (tdC .non))
    (tsDrop (tdBM ty_append dAppend (tdVar 2) (tdCons (tdVar 7) tdNil)))) tsNext)))))
    (tsSeq (tsFor (tiSeq (tdVar 2)) (.name 5) (tsIf (tdB (tdCall (sp_l_is_end C) (tdCons (tdVar 0) (tdCons (tdVar 5) tdNil)))) (tsDn C.hs (tdVar 3) (tdVar 5) (tdTup (tdCons (tdC (.int 0)) (tdCons (tdC (.int 0)) tdNil)))) tsNext))
    (tsSeq (tsAsg (tdC (.bl true)) (.name 8))
    (tsSeq (tsWhile (tdB (tdVar 8)) (tsSeq (tsAsg (tdC (.bl false)) (.name 8))
    (tsFor (tiRev (tdVar 2)) (.name 5) (tsFor (tiSeq (tdOp (dIxN C.hs) (tdVar 4) (tdVar 5))) (.tup [6, 7]) (tsIf (tdB (tdOp (dIs true) (tdOp (dIxN C.hs) (tdVar 3) (tdVar 7)) (tdC .non))) (tsSeq (tsAsg (tdTup (tdCons (tdOp dAdd (tdOp dIx (tdOp (dIxN C.hs) (tdVar 3) (tdVar 7)) (tdC (.int 0))) (tdCB dInt (tdCons (tdOp dEq (tdOp dIx (tdVar 6) (tdC (.int 0))) (tdC (.str "shift"))) tdNil))) (tdCons (tdOp dAdd (tdOp dIx (tdOp (dIxN C.hs) (tdVar 3) (tdVar 7)) (tdC (.int 1))) (tdC (.int 1))) tdNil))) (.name 9))
    (tsIf (tdOr (tdB (tdOp (dIs false) (tdOp (dIxN C.hs) (tdVar 3) (tdVar 5)) (tdC .non))) (tdB (tdOp dLt (tdVar 9) (tdOp (dIxN C.hs) (tdVar 3) (tdVar 5))))) (tsSeq (tsDn C.hs (tdVar 3) (tdVar 5) (tdVar 9))
    (tsAsg (tdC (.bl true)) (.name 8))) tsNext)) tsNext)))))
    (tsRet (tdFrzN C.hs (tdVar 3))))))))))
theorem q_l_table (C : CC) : Qd_ (sp_l_table C) (td_l_table C) 10 := by
  rintro ds W Qd Ed ⟨s, x0, rfl, hs, h0, h⟩
  simp [td_l_table, sizeLine, -State.d]
  intro pf hpf pb hpb pn hpn
  have nbf : pb ≠ pf := by rintro rfl; rw [updW_same] at hpb; cases hpb
  rw [updW_ne nbf] at hpb
  have nnb : pn ≠ pb := by rintro rfl; rw [updW_same] at hpn; cases hpn
  rw [updW_ne nnb] at hpn
  have nnf : pn ≠ pf := by rintro rfl; rw [updW_same] at hpn; cases hpn
  rw [updW_ne nnf] at hpn
  generalize hW1 : updW _ pn _ = W1
  have M0 : MidL C s pf pb pn [x0] [] (fun _ => none) W W1 := by
    subst hW1
    refine ⟨?_, ?_, ?_, fun q h1 h2 h3 => ?_⟩
    · simp [updW_ne nnf.symm, updW_ne nbf.symm, updW_same]
    · simp [updW_same, encX, encT]
    · simp [updW_ne nnb.symm, updW_same, encG, encT, optP]
    · simp [updW_ne h1, updW_ne h2, updW_ne h3]
  have lenE : ∀ {f : List State} {n : Nat}, Expl s x0 f n → f.length ≤ 3072 := fun e => many hs e.nd fun y hy => (e.rch y hy).in hs h0
  refine ⟨_, whL_inv (fun n ρ W' => ∃ f m st ot, Expl s x0 f m ∧ m + n = 3072 ∧ MidL C s pf pb pn f (f.take m) (fun _ => none) W W' ∧ ∃ hr, ρ = [some s.t, some x0.d, some (.ref pf), some (.ref pb), some (.ref pn), hr, st, ot, none, none]) ?_ 3072 3072 _ _ (Nat.le_refl _) ⟨[x0], 0, _, _, expl0 s x0, rfl, M0, _, rfl⟩⟩
  rintro n ρ W' Nx ⟨f, m, st, ot, e, hm, M, hr, rfl⟩ hN
  have hfl := lenE e
  have hml := e.le
  simp [M.nx, M.fnd, encX_len, Nat.min_eq_left hml, -State.d]
  by_cases hlt : m < f.length
  · rw [if_pos hlt]
    have hg : f[m]? = some f[m] := List.getElem?_eq_getElem hlt
    have hmem : f[m] ∈ f := List.getElem_mem hlt
    generalize f[m] = x at hg hmem
    rw [getI_nat, hg]
    have hx := (e.rch x hmem).in hs h0
    have hnk : x ∉ f.take m := by
      intro z
      obtain ⟨j, hj, ej⟩ := List.mem_iff_getElem.mp z
      rw [List.length_take] at hj
      rw [List.getElem_take] at ej
      have h2 := (List.getElem?_eq_some_iff.mp hg)
      obtain ⟨h3, h4⟩ := h2
      exact (List.pairwise_iff_getElem.mp e.nd) j m (by omega) h3 (by omega) (ej.trans h4.symm)
    simp [-State.d]
    refine ⟨s, x, rfl, hs, hx.ok, ?_⟩
    have hsl : (stepsAt s x).length ≤ 12 := by
      refine Nat.le_trans (List.length_filter_le _ _) ?_
      have := hs.m5
      simp [every]; omega
    simp [sizeLine, -Step.d, -State.d]
    refine ⟨by omega, ?_⟩
    refine lcL_pure (α := Step) Step.d (fun _ => true) (fun t => nextD (t, behind s x t)) _ trivial ?_ [] ?_
    · intro t ht Kt Kf hk
      obtain ⟨ht1, ht2⟩ := stepsAt_iff.mp ht
      simp [sizeLine, -State.d, -Step.d]
      refine ⟨s, x, t, rfl, hs, hx.ok, ht1, ?_⟩
      simpa [-State.d, -Step.d] using hk
    rw [List.filter_eq_self.mpr (fun _ _ => rfl), List.nil_append]
    have hnx : D.lst ((stepsAt s x).map fun t => nextD (t, behind s x t)) = nextsD (nexts s x) := by
      unfold nextsD nexts; rw [List.map_map]; rfl
    refine ⟨encX s (f.take m), M.nx, by rw [encX_len, List.length_take]; omega, ?_⟩
    rw [hnx, putN_encX hnk]
    have etk : f.take m ++ [x] = f.take (m + 1) := by rw [List.take_succ, hg]; rfl
    rw [etk]
    have M2 : MidL C s pf pb pn f (f.take (m + 1)) (fun _ => none) W (updW W' pn (.dn C.hs (encX s (f.take (m + 1))))) := ⟨by rw [updW_ne nnf.symm]; exact M.fnd, updW_same, by rw [updW_ne nnb.symm]; exact M.kn, fun q h1 h2 h3 => by rw [updW_ne h3]; exact M.ot q h1 h2 h3⟩
    generalize updW W' pn _ = W2 at M2
    have hxk : x ∈ f.take (m + 1) := by rw [← etk]; simp
    refine ⟨encX s (f.take (m + 1)), M2.nx, nextsD (nexts s x), getN_encX hxk, ?_⟩
    simp only [nextsD]
    refine forL_inv (α := Step × State) nextD (fun ps ρ W' => ∃ f' st ot, Expl s x0 f' m ∧ f'[m]? = some x ∧ f'.take (m + 1) = f.take (m + 1) ∧ (∀ p ∈ nexts s x, p ∈ ps ∨ p.2 ∈ f') ∧ (∀ p ∈ ps, p ∈ nexts s x) ∧ MidL C s pf pb pn f' (f.take (m + 1)) (fun _ => none) W W' ∧ ρ = [some s.t, some x0.d, some (.ref pf), some (.ref pb), some (.ref pn), some x.d, st, ot, none, none]) ?_ ?_ (nexts s x) _ _
      ⟨f, _, _, e, hg, rfl, fun p hp => .inl hp, fun p hp => hp, M2, rfl⟩
    · rintro ρ W3 ⟨f', st, ot, e', hg', et, hc, -, M3, rfl⟩
      refine ⟨trivial, hN (n - 1) _ _ (by omega) ⟨f', m + 1, _, _, e'.next hg' fun p hp => (hc p hp).resolve_left (by simp), by omega, by rw [et]; exact M3, _, rfl⟩⟩
    · rintro p ps ρ W3 Nx' ⟨f', st, ot, e', hg', et, hc, hps, M3, rfl⟩ hN'
      have hp := hps p List.mem_cons_self
      have hps' : ∀ q ∈ ps, q ∈ nexts s x := fun q hq => hps q (List.mem_cons_of_mem _ hq)
      have hx' : x ∈ f' := List.mem_of_getElem? hg'
      have hl' := lenE e'
      have eg := e'.grow hx' hp
      have hlg := lenE eg
      refine ⟨trivial, ?_⟩
      simp [M3.kn, getN_encG_none, -State.d, -Step.d]
      by_cases hk : p.2 ∈ f'
      · simp [hk, -State.d, -Step.d]
        refine hN' _ _ ⟨f', _, _, e', hg', et, fun q hq => ?_, hps', M3, rfl⟩
        rcases hc q hq with z | z
        · rcases List.mem_cons.mp z with rfl | z
          · exact .inr hk
          · exact .inl z
        · exact .inr z
      · simp [hk, encG_len, sizeLine, -State.d, -Step.d]
        refine ⟨by omega, ?_⟩
        rw [putN_encG_new hk]
        simp [updW_ne nbf.symm, M3.fnd, ty_append, ty_list_ref, -State.d, -Step.d]
        have eg2 : grow1 f' p = f' ++ [p.2] := by unfold grow1; rw [if_neg hk]
        rw [eg2] at eg
        have hmf : m < f'.length := (List.getElem?_eq_some_iff.mp hg').1
        refine ⟨by omega, hN' _ _ ⟨f' ++ [p.2], _, _, eg, ?_, ?_, fun q hq => ?_, hps', ?_, rfl⟩⟩
        · rw [List.getElem?_append_left hmf]; exact hg'
        · rw [List.take_append_of_le_length (by omega)]; exact et
        · rcases hc q hq with z | z
          · rcases List.mem_cons.mp z with rfl | z
            · exact .inr (by simp)
            · exact .inl z
          · exact .inr (List.mem_append_left _ z)
        · refine ⟨?_, ?_, ?_, fun q h1 h2 h3 => ?_⟩
          · rw [updW_same, List.map_append]; rfl
          · rw [updW_ne nnf, updW_ne nnb]; exact M3.nx
          · rw [updW_ne nbf, updW_same]
          · rw [updW_ne h1, updW_ne h2]; exact M3.ot q h1 h2 h3
  · rw [if_neg hlt]
    have hmf : m = f.length := by omega
    subst hmf
    have hF := e.found
    have hin := hF.in hs h0
    rw [List.take_length] at M
    have putM : ∀ {g : Tab} {W' : Wd} {x : State} {v : Int × Int}, x ∈ f → MidL C s pf pb pn f f g W W' → MidL C s pf pb pn f f (fput g x v) W (updW W' pb (.dn C.hs (putN (encG f g) x.key (pairD v)))) := fun hx M => ⟨by rw [updW_ne nbf.symm]; exact M.fnd, by rw [updW_ne nnb]; exact M.nx, by rw [updW_same, putN_encG hx], fun q h1 h2 h3 => by rw [updW_ne h2]; exact M.ot q h1 h2 h3⟩
    refine forL_inv (α := State) State.d (fun as ρ W' => ∃ g one st ot, MidL C s pf pb pn f f g W W' ∧ ρ = [some s.t, some x0.d, some (.ref pf), some (.ref pb), some (.ref pn), one, st, ot, none, none] ∧ Sound s g ∧ (∀ x ∈ as, x ∈ f) ∧ ∀ x ∈ f, x ∉ as → isEnd s x = true → g x = some (0, 0)) ?_ ?_ f _ W'
      ⟨fun _ => none, _, _, _, M, rfl, (by intro x v hx; cases hx), fun x hx => hx, fun x hx hn => absurd hx hn⟩
    · rintro ρ W' ⟨g, one, st, ot, M, rfl, hT, -, hE⟩
      refine ⟨M.fnd, ?_⟩
      simp
      refine whL_run (r := LessB f.reverse) (fun (z : Tab × Bool) ρ W' => ∃ one st ot mo, MidL C s pf pb pn f f z.1 W W' ∧ ρ = [some s.t, some x0.d, some (.ref pf), some (.ref pb), some (.ref pn), one, st, ot, some (.bl z.2), mo] ∧ Sound s z.1 ∧ Ends0 s f z.1 ∧ (z.2 = false → ∀ x ∈ f, IsBest s x (z.1 x))) (f := (g, true)) (lessB_acc _ _) ⟨_, _, _, _, M, rfl, hT, fun x hx he => ⟨(0, 0), hE x hx (by simp) he, le2_refl _⟩, fun z => by cases z⟩ ?_
      rintro ⟨g, b⟩ ⟨ρ0, W0, o0, s0, t0, m0, -, -, hT0, hE0, -⟩
      simp only at hT0 hE0
      cases b with
      | false =>
        refine .inl ?_
        rintro ρ W' Nx ⟨one, st, ot, mo, M, rfl, hT, hE, hbst⟩
        simp [M.kn]
        have hb := hbst rfl
        simp only at hb
        have eg : encG f g = encG f (bestO s) := by
          unfold encG
          congr 1
          refine List.map_congr_left fun y hy => ?_
          rw [bestO_of (hb y hy)]
        rw [eg]
        refine Dr.of (fun q => ?_) (h f hF fun y hy => by rw [bestO_of (hb y hy)]; exact hb y hy)
        by_cases e1 : q = pf
        · exact .inl (by rw [e1]; exact hpf)
        by_cases e2 : q = pb
        · exact .inl (by rw [e2]; exact hpb)
        by_cases e3 : q = pn
        · exact .inl (by rw [e3]; exact hpn)
        exact .inr (by rw [delW_ne e2, M.ot q e1 e2 e3])
      | true =>
        refine .inr ⟨pass s f.reverse g, ⟨rfl, fun e => ?_⟩, ?_⟩
        · have hc := pass_came (s := s) (l := f.reverse) (f := g)
          exact ⟨(pass_sound _ hT0).nonneg, hT0.nonneg, hc.le, hc.lt e⟩
        · rintro ρ W' Nx ⟨one, st, ot, mo, M, rfl, hT, hE, -⟩ hN
          simp only at M hT hE
          simp [M.fnd, ← List.map_reverse]
          refine forL_inv (α := State) State.d (fun as ρ W' => ∃ c b one st ot mo, MidL C s pf pb pn f f c W W' ∧ ρ = [some s.t, some x0.d, some (.ref pf), some (.ref pb), some (.ref pn), one, st, ot, some (.bl b), mo] ∧ Sound s c ∧ (∀ x ∈ as, x ∈ f) ∧ as.foldl (relax s) (c, b) = pass s f.reverse g) ?_ ?_ f.reverse _ _
            ⟨g, _, _, _, _, _, M, rfl, hT, fun x hx => List.mem_reverse.mp hx, rfl⟩
          · rintro ρ W' ⟨c, b, one, st, ot, mo, M, rfl, hTc, -, hR⟩
            have hR1 : (pass s f.reverse g).1 = c := by rw [← hR]; rfl
            have hR2 : (pass s f.reverse g).2 = b := by rw [← hR]; rfl
            refine ⟨M.fnd, hN _ _ ⟨one, st, ot, mo, by rw [hR1]; exact M, by rw [hR2], by rw [hR1]; exact hTc, ?_, ?_⟩⟩
            · exact ends_le hE (pass_came (s := s)).le
            · intro hg
              obtain ⟨h1, h2⟩ := passes_still (s := s) f.reverse hg
              have e : (pass s f.reverse g).1 = g := h1
              rw [e]
              exact still_best hF.closed hT hE fun x hx => h2 x (List.mem_reverse.mpr hx)
          · rintro x as ρ W' Nx ⟨c, b, one, st, ot, mo, M, rfl, hTc, hsub, hR⟩ hN
            refine ⟨M.fnd, ?_⟩
            have hx := hsub x List.mem_cons_self
            simp [M.nx, getN_encX hx, nextsD, -State.d, -nextD]
            refine forL_inv (α := Step × State) nextD (fun ps ρ W' => ∃ c b st ot mo, MidL C s pf pb pn f f c W W' ∧ ρ = [some s.t, some x0.d, some (.ref pf), some (.ref pb), some (.ref pn), some x.d, st, ot, some (.bl b), mo] ∧ Sound s c ∧ (∀ p ∈ ps, p ∈ nexts s x) ∧ as.foldl (relax s) (ps.foldl (relax1 x) (c, b)) = pass s f.reverse g) ?_ ?_ (nexts s x) _ _
              ⟨c, _, _, _, _, M, rfl, hTc, fun p hp => hp, hR⟩
            · rintro ρ W' ⟨c, b, st, ot, mo, M, rfl, hTc, -, hR⟩
              exact ⟨trivial, hN _ _ ⟨c, _, _, _, _, _, M, rfl, hTc, fun y hy => hsub y (List.mem_cons_of_mem _ hy), hR⟩⟩
            · rintro p ps ρ W' Nx ⟨c, b, st, ot, mo, M, rfl, hTc, hps, hR⟩ hN
              have hp := hps p List.mem_cons_self
              have hps' : ∀ q ∈ ps, q ∈ nexts s x := fun q hq => hps q (List.mem_cons_of_mem _ hq)
              have hp2 : p.2 ∈ f := hF.closed x hx p hp
              refine ⟨trivial, ?_⟩
              simp [M.kn, getN_encG hp2, getN_encG hx, isNon_optP, ix_step, w_shift, sh_if, -State.d, -Step.d]
              cases ev : c p.2 with
              | none =>
                simp
                refine hN _ _ ⟨c, b, _, _, _, M, rfl, hTc, hps', ?_⟩
                rw [← hR, List.foldl_cons]
                simp [relax1, ev]
              | some v =>
                simp [optP, -State.d, -Step.d]
                refine ⟨_, M.kn, _, getN_encG hp2, ?_⟩
                have hby : ∀ P : D → Prop, P (pairD (by_ v p.1)) → P (D.tup [D.int (v.1 + sh p.1), D.int (v.2 + 1)]) := fun P h => h
                simp [ev, optP, M.kn, getN_encG hx, isNon_optP, sizeLine, encG_len, -State.d, -Step.d]
                have put : less c x (by_ v p.1) = true → Nx [some s.t, some x0.d, some (.ref pf), some (.ref pb), some (.ref pn), some x.d, some p.1.d, some p.2.d, some (.bl true), some (pairD (by_ v p.1))] (updW W' pb (.dn C.hs (putN (encG f c) x.key (pairD (by_ v p.1))))) := fun hl => hN _ _ ⟨fput c x (by_ v p.1), true, _, _, _, putM hx M, rfl, by
                    intro y w hy
                    simp only [fput] at hy
                    split at hy
                    · rename_i e2; subst e2; cases hy; exact .step hp (hTc _ _ ev)
                    · exact hTc y w hy, hps', by rw [← hR, List.foldl_cons]; simp [relax1, ev, hl]⟩
                cases e2 : c x with
                | none =>
                  simp
                  exact ⟨by omega, put (by simp [less, e2])⟩
                | some u =>
                  simp [e2]
                  refine ⟨[_, _], rfl, [_, _], rfl, ?_⟩
                  rw [lexLt2]
                  by_cases hl : lt2 (v.1 + sh p.1, v.2 + 1) (u.1, u.2)
                  · simp [hl, M.kn, encG_len]
                    exact ⟨by omega, put (by simp [less, e2]; exact hl)⟩
                  · simp [hl]
                    refine hN _ _ ⟨c, b, _, _, _, M, rfl, hTc, hps', ?_⟩
                    have hl2 : less c x (by_ v p.1) = false := by simp [less, e2]; exact hl
                    rw [← hR, List.foldl_cons]
                    simp [relax1, ev, hl2]
    · rintro x as ρ W' Nx ⟨g, one, st, ot, M, rfl, hT, hsub, hE⟩ hN
      refine ⟨M.fnd, ?_⟩
      have hx := hsub x List.mem_cons_self
      simp [-State.d]
      refine sp_l_is_end_s hs (hin x hx).ok ?_
      cases e : isEnd s x with
      | false =>
        simp
        refine hN _ _ ⟨g, _, _, _, M, rfl, hT, fun y hy => hsub y (List.mem_cons_of_mem _ hy), fun y hy hn he => hE y hy (fun z => ?_) he⟩
        rcases List.mem_cons.mp z with rfl | z
        · rw [e] at he; cases he
        · exact hn z
      | true =>
        simp [M.kn, encG_len, sizeLine, -State.d]
        refine ⟨by omega, ?_⟩
        refine hN _ _ ⟨fput g x (0, 0), _, _, _, putM (v := (0, 0)) hx M, rfl, ?_, fun y hy => hsub y (List.mem_cons_of_mem _ hy), fun y hy hn he => ?_⟩
        · intro y w hy
          simp only [fput] at hy
          split at hy
          · rename_i e2; subst e2; cases hy; exact .stop e
          · exact hT y w hy
        · unfold fput
          split
          · rfl
          · rename_i ne
            exact hE y hy (fun z => by rcases List.mem_cons.mp z with z | z; exact ne z; exact hn z) he
theorem sp_l_table_s {C : CC} {s : Store} {x : State} {W : Wd} {Q : QD} {E : XD} (hs : s.Ok) (hx : x.In s) (h : ∀ l, Found s x l → (∀ y ∈ l, IsBest s y (bestO s y)) → Q (.dn C.hs (encG l (bestO s))) W) : sp_l_table C [s.t, x.d] W Q E := ⟨s, x, rfl, hs, hx, h⟩
def sp_l_paper (C : CC) : SpD := fun ds W Q _ => ∃ (s : Store) (x0 : State) (l : List State), ds = [.dn C.hs (encG l (bestO s))] ∧ s.Ok ∧ x0.In s ∧ Found s x0 l ∧ Q (.lst ((paperOf s x0).map papD)) W
def td_l_paper (C : CC) : TSd :=
  (tsRet (tdLc (tiSeq (tdCB (dSortN C.hs) (tdCons (tdVar 0) tdNil))) (.name 1) tdYes (tdTup (tdCons (tdVar 1) (tdCons (tdIf (tdB (tdOp (dIs false) (tdOp (dIxN C.hs) (tdVar 0) (tdVar 1)) (tdC .non))) (tdC .non) (tdOp dIx (tdOp (dIxN C.hs) (tdVar 0) (tdVar 1)) (tdC (.int 0)))) tdNil))) [1]))
theorem q_l_paper (C : CC) : Q_ (sp_l_paper C) (td_l_paper C) 2 := by
  rintro ds W Qd Ed ⟨s, x0, l, rfl, hs, h0, hF, h⟩
  have hin := hF.in hs h0
  have hlen := many hs hF.nd hin
  have ek : (encG l (bestO s)).map (fun p => dOf p.1) = l.map State.d := by
    unfold encG encT
    rw [List.map_map, List.map_map]
    refine List.map_congr_left fun q _ => ?_
    simp [-State.d]
  have ek2 : (encG l (bestO s)).map (fun p => toPy (dOf p.1)) = (l.map State.d).map toPy := by rw [← ek, List.map_map]; rfl
  simp [td_l_paper, sizeLine, -State.d, -List.map_map]
  refine ⟨?_, ?_, ?_, ?_, ?_⟩
  · intro k d hk
    unfold encG encT at hk
    obtain ⟨q, _, e⟩ := List.mem_map.mp hk
    cases e
    rw [key_d]
    exact okD_state 6 _
  · rw [ek2]; exact alike_states l
  · rw [ek2]; exact sortable_states l
  · rw [encG_len]; omega
  rw [ek, sorted_states, statesOf_of hF]
  refine lcL_pure (α := State) State.d (fun _ => true) (fun x => papD (x, (bestO s x).map (·.1))) _ trivial ?_ [] ?_
  · intro x hx Kt Kf hk
    have hx := (statesOf_mem hF).mp hx
    simp only [if_true] at hk
    simp [getN_encG hx, isNon_optP, sizeLine, -State.d]
    cases e2 : bestO s x with
    | none => rw [e2] at hk; simpa [papD] using hk
    | some v =>
      obtain ⟨v1, v2⟩ := v
      rw [e2] at hk
      simpa [optP, papD] using hk
  · have := h
    rw [paperOf, List.map_map] at this
    simpa [Function.comp_def] using this
end AI

/-! SR7: the told paper shows just what is so. Plain. -/
namespace AI
open PySem PySem.Spec PyProof.Rows L2 DL
theorem nodup_sort {l : List State} (h : l.Nodup) : (l.mergeSort leS).Nodup := (List.mergeSort_perm l leS).nodup_iff.mpr h
theorem paperOf_keys (s : Store) (x0 : State) : (paperOf s x0).map (·.1) = statesOf s x0 := by
  unfold paperOf
  rw [List.map_map]
  simp [Function.comp_def]
theorem states_nodup {s : Store} {x0 : State} {l : List State} (h : Found s x0 l) : (statesOf s x0).Nodup := by
  rw [← statesOf_of h]; exact nodup_sort h.nd
theorem merge_paper {s : Store} {x0 : State} {l : List State} (h : Found s x0 l) : mergeT (paperOf s x0) = paperOf s x0 := mergeT_nodup (by rw [paperOf_keys]; exact states_nodup h)
theorem look_paper {s : Store} {x0 : State} {l : List State} (h : Found s x0 l) (x : State) : lookT (paperOf s x0) x = if x ∈ l then some ((bestO s x).map (·.1)) else none := by
  unfold paperOf
  rw [lookT_map (fun x => (bestO s x).map (·.1))]
  simp only [statesOf_mem h]
theorem paper_len {s : Store} {x0 : State} {l : List State} (h : Found s x0 l) : (paperOf s x0).length = l.length := by
  unfold paperOf
  rw [List.length_map, ← statesOf_of h, List.length_mergeSort]
theorem paper_in {s : Store} {x0 : State} {l : List State} (h : Found s x0 l) (hs : s.Ok) (h0 : x0.In s) : ∀ q ∈ paperOf s x0, q.1.In s := by
  intro q hq
  obtain ⟨x, hx, rfl⟩ := List.mem_map.mp hq
  exact h.in hs h0 x ((statesOf_mem h).mp hx)
theorem keeps_paper {s : Store} {x0 : State} {l : List State} (h : Found s x0 l) (hB : ∀ x ∈ l, IsBest s x (bestO s x)) {x : State} (hx : x ∈ l) : keepsF s (lookT (paperOf s x0)) ((bestO s x).map (·.1)) x = true := by
  have hb := hB x hx
  unfold keepsF
  rw [Bool.and_eq_true]
  constructor
  · cases he : isEnd s x with
    | false => rfl
    | true =>
      have e := (best_end he)
      have e2 : bestO s x = some (0, 0) := bestO_of (o := some (0, 0)) e
      rw [e2]; rfl
  · rw [List.all_eq_true]
    intro p hp
    have hp2 := h.closed x hx p hp
    have hbp := hB p.2 hp2
    unfold keepStep
    rw [look_paper h, if_pos hp2]
    cases e : bestO s p.2 with
    | none => rfl
    | some v =>
      rw [e] at hbp
      have w := Way.step hp hbp.way
      cases e2 : bestO s x with
      | none => rw [e2] at hb; exact absurd w (hb _ _)
      | some u =>
        rw [e2] at hb
        have := hb.least _ _ w
        unfold le2 at this
        simp at this ⊢
        omega
theorem shows_paper {s : Store} {l : List State} (h : Found s (begin_ s) l) (hB : ∀ x ∈ l, IsBest s x (bestO s x)) (many : Option Int) : showsF s (paperOf s (begin_ s)) many = enough ((bestO s (begin_ s)).map (·.1)) many := by
  have h0 : begin_ s ∈ l := (h.mem _).mpr .start
  unfold showsF
  rw [merge_paper h, look_paper h, if_pos h0]
  have hk : keptAll s (paperOf s (begin_ s)) = true := by
    unfold keptAll
    rw [List.all_eq_true]
    intro q hq
    obtain ⟨x, hx, rfl⟩ := List.mem_map.mp hq
    have hx := (statesOf_mem h).mp hx
    rw [look_paper h, if_pos hx]
    exact keeps_paper h hB hx
  rw [hk]
  simp
theorem okD_pap (n : Nat) (q : State × Option Int) : okD (n + 3) (papD q) = true := by
  unfold papD
  rw [okD_tup, okL_cons, okL_cons, okL_nil, okD_state]
  cases q.2 <;> simp
theorem okD_paps (n : Nat) (pp : Pap) : okD (n + 4) (.lst (pp.map papD)) = true := by
  rw [okD_lst]
  exact okL_map _ fun q _ => okD_pap n q
theorem eqD_paps (pp : Pap) : eqD (.lst (pp.map papD)) (.lst (pp.map papD)) = true := eqD_refl 4 _ (okD_paps 0 pp)
theorem sp_shows_s {C : CC} {s : Store} {d : D} {pp : Pap} {W : Wd} {Q : QD} {E : XD} (many : Option Int) {m : D} (hm : m = optI many) (hs : s.Ok) (hv : viewW W d = .lst (pp.map papD)) (hin : ∀ q ∈ pp, q.1.In s) (hl : pp.length ≤ 1000000) (h : Q (.bl (showsF s pp many)) W) : sp_shows C [s.o C, d, m] W Q E := ⟨s, d, pp, many, by rw [hm], hs, hv, hin, hl, h⟩
end AI

/-! PL4: what a paper that is kept tells. Plain. -/
namespace AI
open PySem PySem.Spec PyProof.Rows L2 DL
theorem merge_len_nodup : ∀ (pp acc : Pap), (acc.map (·.1)).Nodup → (pp.foldl (fun acc q => putT acc q.1 q.2) acc).length = acc.length + pp.length → (acc.map (·.1) ++ pp.map (·.1)).Nodup
  | [], acc, h, _ => by simpa using h
  | q :: pp, acc, h, e => by
    rw [List.foldl_cons] at e
    have hle := mergeT_len_le pp (putT acc q.1 q.2)
    by_cases hq : (lookT acc q.1).isSome = true
    · have : (putT acc q.1 q.2).length = acc.length := by unfold putT; rw [if_pos hq]; simp
      rw [List.length_cons] at e
      omega
    · have e2 : putT acc q.1 q.2 = acc ++ [q] := by unfold putT; rw [if_neg hq]
      rw [e2] at e
      have hn : ((acc ++ [q]).map (·.1)).Nodup := by
        rw [List.map_append, List.nodup_append]
        refine ⟨h, by simp, fun a ha b hb => ?_⟩
        simp at hb
        subst hb
        rintro rfl
        exact hq (lookT_mem.mpr ha)
      have := merge_len_nodup pp (acc ++ [q]) hn (by rw [e]; simp; omega)
      simpa using this
theorem mergeT_dup {pp : Pap} (h : ¬ (pp.map (·.1)).Nodup) : ¬ (mergeT pp).length = pp.length := fun e => h (by
  have := merge_len_nodup pp [] (by simp) (by simpa [mergeT] using e)
  simpa using this)
theorem kept_sound {s : Store} {t : Pap} (hk : keptAll s t = true) : ∀ {x : State} {a b : Int}, Way s x a b → ∀ o, lookT t x = some o → ∃ n, o = some n ∧ n ≤ a := by
  have hk' : ∀ x o, lookT t x = some o → keepsF s (lookT t) o x = true := fun x o h => by
    have hm : x ∈ t.map (·.1) := lookT_mem.mp (by rw [h]; rfl)
    obtain ⟨q, hq, e⟩ := List.mem_map.mp hm
    have := (List.all_eq_true.mp hk) q hq
    rw [e, h] at this
    exact this
  intro x a b w
  induction w with
  | @stop x he =>
    intro o ho
    have := hk' x o ho
    unfold keepsF at this
    rw [he, Bool.true_and, Bool.and_eq_true] at this
    cases o with
    | none => simp [overO] at this
    | some n => exact ⟨n, rfl, by have := this.1; simp [overO] at this; exact this⟩
  | @step x p a b hp w ih =>
    intro o ho
    have h1 := hk' x o ho
    unfold keepsF at h1
    rw [Bool.and_eq_true] at h1
    have h2 := (List.all_eq_true.mp h1.2) p hp
    unfold keepStep at h2
    cases e : lookT t p.2 with
    | none => rw [e] at h2; cases h2
    | some o' =>
      obtain ⟨m, rfl, hm⟩ := ih o' e
      rw [e] at h2
      cases o with
      | none => cases h2
      | some n => exact ⟨n, rfl, by simp at h2; omega⟩
theorem shows_sound {s : Store} {pp : Pap} {many : Option Int} (h : showsF s pp many = true) {v : Int × Int} (hb : Best s (begin_ s) v) : ∃ m, many = some m ∧ m ≤ v.1 := by
  unfold showsF at h
  rw [Bool.and_eq_true] at h
  have h2 := h.2
  cases e : lookT (mergeT pp) (begin_ s) with
  | none => rw [e] at h2; cases h2
  | some o =>
    rw [e] at h2
    simp only [Bool.and_eq_true] at h2
    obtain ⟨n, rfl, hn⟩ := kept_sound h2.1 hb.way o e
    have h3 := h2.2
    unfold enough at h3
    cases many with
    | none => cases h3
    | some m => exact ⟨m, rfl, by simp at h3; omega⟩
end AI

/-! PL5: how far the aisle has to go; a store with a shelf that sticks more. Plain. -/
namespace AI
open PySem PySem.Spec PyProof.Rows L2 DL
def absI (i : Int) : Int := if i < 0 then -i else i
def distW (w : Wish) (a : Int) : Int := match w.side with
  | .left => absI (a - w.shelf)
  | .right => absI (a - (w.shelf + 1))
  | .any => min (absI (a - w.shelf)) (absI (a - (w.shelf + 1)))
def farF (s : Store) (x : State) (ks : List Nat) (m : Int) : Int := ks.foldl (fun m k => if ((k : Nat) : Int) ∈ x.done then m else max m (distW (wishAt s (k : Nat)) x.aisle)) m
def far (s : Store) (x : State) : Int := farF s x (List.range s.wishes.length) 0
theorem farF_le {s : Store} {x : State} {B : Int} : ∀ (ks : List Nat) (m : Int), farF s x ks m ≤ B ↔ m ≤ B ∧ ∀ k ∈ ks, ((k : Nat) : Int) ∉ x.done → distW (wishAt s (k : Nat)) x.aisle ≤ B
  | [], m => by simp [farF]
  | k :: ks, m => by
    have ih := farF_le (s := s) (x := x) (B := B) ks (if ((k : Nat) : Int) ∈ x.done then m else max m (distW (wishAt s (k : Nat)) x.aisle))
    show farF s x ks _ ≤ B ↔ _
    rw [ih]
    simp only [List.mem_cons, forall_eq_or_imp]
    by_cases h : ((k : Nat) : Int) ∈ x.done
    · simp [h]
    · rw [if_neg h]
      constructor
      · rintro ⟨h1, h2⟩; exact ⟨by omega, fun _ => by omega, h2⟩
      · rintro ⟨h1, h2, h3⟩; have := h2 h; exact ⟨by omega, h3⟩
theorem far_le {s : Store} {x : State} {B : Int} : far s x ≤ B ↔ 0 ≤ B ∧ ∀ k : Nat, k < s.wishes.length → ((k : Nat) : Int) ∉ x.done → distW (wishAt s (k : Nat)) x.aisle ≤ B := by
  unfold far
  rw [farF_le]
  simp
theorem far_nonneg (s : Store) (x : State) : 0 ≤ far s x := (far_le.mp (Int.le_refl _)).1
theorem dist_one (w : Wish) (a i : Int) (h : i = -1 ∨ i = 1) : distW w a ≤ distW w (a + i) + 1 := by
  unfold distW absI
  cases w.side <;> simp only <;> (repeat split) <;> omega
theorem dist_nonneg (w : Wish) (a : Int) : 0 ≤ distW w a := by
  unfold distW absI
  cases w.side <;> simp only <;> (repeat split) <;> omega
theorem reach_dist {s : Store} {n a : Int} (h : reaches s n a = true) : distW (wishAt s n) a = 0 := by
  unfold reaches at h
  unfold distW absI
  cases e : (wishAt s n).side <;> simp [e] at h ⊢ <;> (repeat split) <;> omega
theorem barWish_none {s : Store} {x : State} {n : Int} (h : barWish s x n = none) : n ∉ x.done ∧ reaches s n x.aisle = true := by
  unfold barWish at h
  by_cases h1 : n ∈ x.done
  · rw [if_pos h1] at h; cases h
  · rw [if_neg h1] at h
    refine ⟨h1, ?_⟩
    split at h
    · cases h
    · by_cases h2 : (wishAt s n).crew ∉ x.inside
      · rw [if_pos h2] at h; cases h
      · rw [if_neg h2] at h
        by_cases h3 : reaches s n x.aisle = false
        · rw [if_pos h3] at h; cases h
        · simpa using h3
theorem far_step {s : Store} {x : State} {t : Step} (hx : x.In s) (ht : t.Ok s) (hb : bar s x t = none) : far s x ≤ far s (behind s x t) + sh t := by
  have h0 := far_nonneg s (behind s x t)
  have hle := (far_le (s := s) (x := behind s x t)).mp (Int.le_refl _)
  refine far_le.mpr ⟨by rcases sh_01 t with e | e <;> omega, fun k hk hd => ?_⟩
  cases t with
  | wait => have := hle.2 k hk hd; simpa [behind, sh] using this
  | shift i =>
    have := hle.2 k hk hd
    have h1 := dist_one (wishAt s k) x.aisle i ht.ok
    simp only [sh]
    simp only [behind] at this ⊢
    omega
  | ent i => have := hle.2 k hk hd; simpa [behind, sh] using this
  | out i => have := hle.2 k hk hd; simpa [behind, sh] using this
  | fin n =>
    obtain ⟨h1, h2⟩ := barWish_none (x := x) (n := n) hb
    simp only [sh]
    by_cases e : (k : Int) = n
    · rw [e, reach_dist h2]; omega
    · have := hle.2 k hk (fun z => by
        simp only [behind] at z
        rcases List.mem_append.mp (sortI_mem.mp z) with z | z
        · exact hd z
        · exact e (List.mem_singleton.mp z))
      simp only [behind] at this ⊢
      omega
theorem far_end {s : Store} {x : State} (hx : x.Ok s) (h : isEnd s x = true) : far s x ≤ 0 := by
  refine far_le.mpr ⟨Int.le_refl _, fun k hk hd => ?_⟩
  unfold isEnd at h
  rw [Bool.and_eq_true, decide_eq_true_iff] at h
  have e := sorted_full s.wishes.length 0 hx.so (fun y hy => by have := hx.dn y hy; unfold InW at this; omega) h.1
  refine absurd ?_ hd
  rw [e]
  exact List.mem_map.mpr ⟨k, List.mem_range.mpr hk, by omega⟩
/-- some states, each with a number of its own -/
theorem shows_list {s : Store} {L : List State} (nd : L.Nodup) (h0 : begin_ s ∈ L) (g : State → Option Int) (many : Option Int) (hk : ∀ x ∈ L, keepsF s (fun y => if y ∈ L then some (g y) else none) (g x) x = true) : showsF s (L.map fun x => (x, g x)) many = enough (g (begin_ s)) many := by
  have hlook : lookT (L.map fun x => (x, g x)) = fun y => if y ∈ L then some (g y) else none := by
    funext y
    rw [lookT_map]
  have hm : mergeT (L.map fun x => (x, g x)) = L.map fun x => (x, g x) := mergeT_nodup (by
    rw [List.map_map]
    simpa [Function.comp_def] using nd)
  unfold showsF
  rw [hm, hlook]
  simp only [h0, if_true, decide_true, Bool.true_and]
  have : keptAll s (L.map fun x => (x, g x)) = true := by
    unfold keptAll
    rw [List.all_eq_true]
    intro q hq
    obtain ⟨x, hx, rfl⟩ := List.mem_map.mp hq
    rw [hlook]
    simp only [hx, if_true, Option.getD_some]
    exact hk x hx
  rw [this, Bool.true_and]
theorem begin_mem {s : Store} {l : List State} (hF : Found s (begin_ s) l) : begin_ s ∈ statesOf s (begin_ s) := (statesOf_mem hF).mpr ((hF.mem _).mpr .start)
theorem shows_far {s : Store} {l : List State} (hs : s.Ok) (hF : Found s (begin_ s) l) : showsF s ((statesOf s (begin_ s)).map fun x => (x, some (far s x))) (some (far s (begin_ s))) = true := by
  have hin := hF.in hs (begin_in hs)
  rw [shows_list (states_nodup hF) (begin_mem hF) (fun x => some (far s x))]
  · simp [enough]
  · intro x hx
    have hx := (statesOf_mem hF).mp hx
    unfold keepsF
    rw [Bool.and_eq_true]
    constructor
    · cases e : isEnd s x with
      | false => rfl
      | true =>
        have := far_end (hin x hx).ok e
        have h2 : ¬ 0 < far s x := by omega
        simp [overO, h2]
    · rw [List.all_eq_true]
      intro p hp
      obtain ⟨h1, h2, h3, h4⟩ := next_in hs (hin x hx) hp
      unfold keepStep
      simp only [if_pos ((statesOf_mem hF).mpr (hF.closed x hx p hp))]
      have := far_step (hin x hx) h2 h3
      rw [← h4] at this
      simpa using this
/-- one shelf sticks (more) -/
def stuck (s : Store) (j : Nat) : Store := ⟨s.shelves.take j ++ [{ shelfAt s (j : Nat) with sticks := 1 }] ++ s.shelves.drop (j + 1), s.aisle, s.wishes⟩
theorem stuck_len {s : Store} {j : Nat} (h : j < s.shelves.length) : (stuck s j).shelves.length = s.shelves.length := by
  simp [stuck]; omega
theorem stuck_set {s : Store} {j : Nat} (h : j < s.shelves.length) : (stuck s j).shelves = s.shelves.set j { shelfAt s (j : Nat) with sticks := 1 } := by
  rw [List.set_eq_take_append_cons_drop, if_pos h]
  simp [stuck]
theorem stuck_at {s : Store} {j : Nat} (h : j < s.shelves.length) {i : Int} (hi : InS s i) : (shelfAt (stuck s j) i).has = (shelfAt s i).has ∧ (shelfAt (stuck s j) i).room = (shelfAt s i).room ∧ ((shelfAt s i).sticks = 1 → (shelfAt (stuck s j) i).sticks = 1) := by
  obtain ⟨k, rfl⟩ : ∃ k : Nat, i = k := ⟨i.toNat, by have := hi.1; omega⟩
  have e1 : shelfAt (stuck s j) (k : Nat) = if k = j then { shelfAt s (j : Nat) with sticks := 1 } else shelfAt s (k : Nat) := by
    unfold shelfAt
    rw [getI_nat, stuck_set h, List.getElem?_set, getI_nat, getI_nat]
    by_cases e : j = k
    · subst e; simp [h, shelfAt, getI_nat]
    · have : ¬ k = j := fun z => e z.symm
      simp [e, this]
  rw [e1]
  split
  · rename_i e; subst e; exact ⟨rfl, rfl, fun _ => rfl⟩
  · exact ⟨rfl, rfl, id⟩
theorem stuck_ok {s : Store} {j : Nat} (hs : s.Ok) (h : j < s.shelves.length) : (stuck s j).Ok := by
  have hl := stuck_len h
  refine ⟨by rw [hl]; exact hs.n1, by rw [hl]; exact hs.n5, fun x hx => ?_, hs.a0, by rw [hl]; exact hs.a1, hs.m5, fun x hx => by rw [hl]; exact hs.wi x hx⟩
  rw [stuck_set h] at hx
  rcases List.mem_or_eq_of_mem_set hx with z | rfl
  · exact hs.sh x z
  · have hi : InS s (j : Nat) := ⟨by omega, by omega⟩
    obtain ⟨y, e, hy⟩ := getI_some hi.1 hi.2
    have := hs.sh y hy
    have e2 : shelfAt s (j : Nat) = y := by unfold shelfAt; rw [e]; rfl
    exact ⟨by show 0 ≤ (shelfAt s (j : Nat)).has; rw [e2]; exact this.h0, by show (shelfAt s (j : Nat)).has ≤ (shelfAt s (j : Nat)).room; rw [e2]; exact this.h1, by show (shelfAt s (j : Nat)).room ≤ 9; rw [e2]; exact this.h2, .inr rfl⟩
theorem stuck_bar {s : Store} {j : Nat} (hs : s.Ok) (h : j < s.shelves.length) {x : State} {t : Step} (ht : t.Ok s) (hb : bar (stuck s j) x t = none) : bar s x t = none := by
  cases t with
  | wait => rfl
  | ent i => exact hb
  | out i => exact hb
  | shift i =>
    show barShift s x i = none
    have hb : barShift (stuck s j) x i = none := hb
    unfold barShift at hb ⊢
    rw [stuck_len h] at hb
    generalize (if 0 < i then x.aisle else x.aisle - 1) = z at hb ⊢
    by_cases e : 0 ≤ z ∧ z < s.shelves.length
    · rw [if_pos e] at hb ⊢
      have := (stuck_at h (i := z) e).2.2
      by_cases e2 : (shelfAt s z).sticks = 1
      · rw [if_pos (this e2)] at hb; cases hb
      · rw [if_neg e2]
        by_cases e3 : (shelfAt (stuck s j) z).sticks = 1
        · rw [if_pos e3] at hb; cases hb
        · rw [if_neg e3] at hb; exact hb
    · rw [if_neg e] at hb; cases hb
  | fin n =>
    show barWish s x n = none
    have hb : barWish (stuck s j) x n = none := hb
    have hi := hs.inS (i := n) ht.ok
    obtain ⟨g1, g2, _⟩ := stuck_at h hi
    have ew : ∀ k, wishAt (stuck s j) k = wishAt s k := fun _ => rfl
    have eg : ∀ (sh : Int) (d : List Int) (m : Int), goodsF (stuck s j) sh d m = goodsF s sh d m := fun _ _ _ => rfl
    unfold barWish goods at hb ⊢
    have er : reaches (stuck s j) n x.aisle = reaches s n x.aisle := rfl
    rw [ew, er, eg, g1, g2] at hb
    exact hb
theorem stuck_nexts {s : Store} {j : Nat} (hs : s.Ok) (h : j < s.shelves.length) {x : State} {p : Step × State} (hp : p ∈ nexts (stuck s j) x) : p ∈ nexts s x := by
  obtain ⟨t, ht, rfl⟩ := List.mem_map.mp hp
  obtain ⟨h1, h2⟩ := stepsAt_iff.mp ht
  have h1' : t.Ok s := ⟨by have := h1.ok; cases t <;> exact this⟩
  exact List.mem_map.mpr ⟨t, stepsAt_iff.mpr ⟨h1', stuck_bar hs h h1' h2⟩, by cases t <;> rfl⟩
theorem shows_stuck {s : Store} {j : Nat} {l : List State} (hs : s.Ok) (h : j < s.shelves.length) (hF : Found s (begin_ s) l) (hB : ∀ x ∈ l, IsBest s x (bestO s x)) : showsF (stuck s j) (paperOf s (begin_ s)) ((bestO s (begin_ s)).map (·.1)) = true := by
  have e := shows_list (s := stuck s j) (states_nodup hF) (begin_mem hF) (fun x => (bestO s x).map (·.1)) ((bestO s (begin_ s)).map (·.1)) fun x hx => by
    have hx' := (statesOf_mem hF).mp hx
    have hk := keeps_paper hF hB hx'
    unfold keepsF at hk ⊢
    rw [Bool.and_eq_true] at hk ⊢
    refine ⟨hk.1, ?_⟩
    rw [List.all_eq_true] at hk ⊢
    intro p hp
    have := hk.2 p (stuck_nexts hs h hp)
    have el : lookT (paperOf s (begin_ s)) = fun y => if y ∈ statesOf s (begin_ s) then some ((bestO s y).map (·.1)) else none := by
      funext y
      rw [look_paper hF]
      simp only [statesOf_mem hF]
    rw [el] at this
    exact this
  refine e.trans ?_
  show enough ((bestO s (begin_ s)).map (·.1)) ((bestO s (begin_ s)).map (·.1)) = true
  cases (bestO s (begin_ s)).map (·.1) <;> simp [enough]
end AI

/-! SR8: plans mended. -/
namespace AI
open PySem PySem.Spec PyProof.Rows L2 DL
inductive Chg where
  | late (w : Wish) | sticks (j : Nat)
def Chg.d : Chg → D
  | .late w => .tup [.str "late", w.d]
  | .sticks j => .tup [.str "sticks", .int (j : Nat)]
def Chg.Ok (s : Store) : Chg → Prop
  | .late w => s.wishes.length < 5 ∧ w.Ok s.shelves.length (s.wishes.length + 1)
  | .sticks j => j < s.shelves.length
def chg (s : Store) : Chg → Store
  | .late w => ⟨s.shelves, s.aisle, s.wishes ++ [w]⟩
  | .sticks j => stuck s j
theorem Wish.Ok.up {n m m' : Nat} {x : Wish} (h : x.Ok n m) (hm : m ≤ m') : x.Ok n m' := ⟨h.s0, h.s1, h.cr, h.k0, h.k1, h.so, fun a ha => by have := h.af a ha; omega⟩
theorem chg_ok {s : Store} {c : Chg} (hs : s.Ok) (hc : c.Ok s) : (chg s c).Ok := by
  cases c with
  | late w =>
    refine ⟨hs.n1, hs.n5, hs.sh, hs.a0, hs.a1, by show (s.wishes ++ [w]).length ≤ 5; rw [List.length_append]; have := hc.1; simp; omega, fun x hx => ?_⟩
    show x.Ok s.shelves.length (s.wishes ++ [w]).length
    rw [List.length_append, List.length_singleton]
    rcases List.mem_append.mp hx with z | z
    · exact (hs.wi x z).up (by omega)
    · rw [List.mem_singleton.mp z]; exact hc.2
  | sticks j => exact stuck_ok hs hc
theorem chg_in {s : Store} {c : Chg} (hc : c.Ok s) {x : State} (hx : x.In s) : x.In (chg s c) := by
  cases c with
  | late w =>
    refine ⟨⟨fun n hn => ?_, hx.ok.so, hx.ok.ins, hx.ok.k0, hx.ok.k3⟩, hx.a0, hx.a1⟩
    have := hx.ok.dn n hn
    refine ⟨this.1, ?_⟩
    show n < ((s.wishes ++ [w]).length : Nat)
    have := this.2
    rw [List.length_append]
    simp only [List.length_singleton]
    omega
  | sticks j => exact ⟨⟨hx.ok.dn, hx.ok.so, hx.ok.ins, hx.ok.k0, hx.ok.k3⟩, hx.a0, by show x.aisle ≤ ((stuck s j).shelves.length : Nat); rw [stuck_len hc]; exact hx.a1⟩
theorem last_in {s : Store} (hs : s.Ok) : ∀ {x : State} {ts : List Step}, x.In s → free s x ts → (last_ s x ts).In s
  | x, [], hx, _ => hx
  | x, t :: ts, hx, h => by
    have := last_in hs (x := behind s x t) (ts := ts) (behind_in hs hx h.2.1 h.1) h.2.2
    simpa only [last_] using this
def sp_need_change (C : CC) : SpD := fun ds W Q _ => ∃ (s : Store) (c : Chg), ds = [s.o C, c.d] ∧ s.Ok ∧ c.Ok s ∧ Q .non W
def td_need_change (C : CC) : TSd :=
  (tsSeq (tsIf (tdOr (tdB (tdOp dNe (tdCB dLen (tdCons (tdVar 1) tdNil)) (tdC (.int 2)))) (tdB (tdOp (dIn true) (tdOp dIx (tdVar 1) (tdC (.int 0))) (tdTup (tdCons (tdC (.str "late")) (tdCons (tdC (.str "sticks")) tdNil)))))) tsNever tsNext)
    (tsSeq (tsIf (tdB (tdOp dEq (tdOp dIx (tdVar 1) (tdC (.int 0))) (tdC (.str "sticks")))) (tsSeq (tsIf (tdNotT (tdB (tdChain dLe dLt (tdC (.int 0)) (tdOp dIx (tdVar 1) (tdC (.int 1))) (tdCB dLen (tdCons (tdFld C.st "kept_shelves" (tdVar 0)) tdNil))))) tsNever tsNext)
    tsRetN) tsNext)
    (tsSeq (tsAsg (tdCB dLen (tdCons (tdFld C.st "kept_wishes" (tdVar 0)) tdNil)) (.name 2))
    (tsIf (tdOr (tdB (tdOp dEq (tdVar 2) (tdC (.int 5)))) (tdNotT (tdB (tdCall (sp_is_wish C) (tdCons (tdOp dIx (tdVar 1) (tdC (.int 1))) (tdCons (tdOp dAdd (tdVar 2) (tdC (.int 1))) (tdCons (tdCB dLen (tdCons (tdFld C.st "kept_shelves" (tdVar 0)) tdNil)) tdNil))))))) tsNever tsNext))))
theorem q_need_change (C : CC) : Q_ (sp_need_change C) (td_need_change C) 3 := by
  rintro ds W Qd Ed ⟨s, c, rfl, hs, hc, h⟩
  cases c with
  | late w =>
    have h1 := hc.1
    have h2 : ¬ ((s.wishes.length : Int) = 5) := by omega
    simp [td_need_change, Chg.d, h2, -Wish.d]
    have e : (s.wishes.length : Int) + 1 = ((s.wishes.length + 1 : Nat) : Int) := by omega
    rw [e]
    refine ⟨by simp [sizeLine], sp_is_wish_s hc.2 (by omega) ?_⟩
    simpa using h
  | sticks j =>
    have hj : j < s.shelves.length := hc
    have h3 : ¬ (s.shelves.length : Int) ≤ (j : Int) := by omega
    simp [td_need_change, Chg.d, h3]
    exact ⟨by simp [sizeLine], by omega, by simpa using h⟩
def sp_changed (C : CC) : SpD := fun ds W Q _ => ∃ (s : Store) (c : Chg), ds = [s.o C, c.d] ∧ s.Ok ∧ c.Ok s ∧ Q ((chg s c).o C) W
def td_changed (C : CC) : TSd :=
  (tsSeq (tsIf (tdB (tdOp dEq (tdOp dIx (tdVar 1) (tdC (.int 0))) (tdC (.str "late")))) (tsRet (tdFrzI (tdMake C.st (sp_Store_init C) (tdCons (tdFld C.st "kept_shelves" (tdVar 0)) (tdCons (tdFld C.st "aisle" (tdVar 0)) (tdCons (tdOp dAdd (tdFld C.st "kept_wishes" (tdVar 0)) (tdLst (tdCons (tdOp dIx (tdVar 1) (tdC (.int 1))) tdNil))) tdNil)))))) tsNext)
    (tsSeq (tsAsg (tdMeth C.st "shelves" (sp_Store_shelves C) (tdVar 0) tdNil) (.name 2))
    (tsSeq (tsAsg (tdOp dIx (tdVar 2) (tdOp dIx (tdVar 1) (tdC (.int 1)))) (.tup [3, 4, 5]))
    (tsSeq (tsSub (tdVar 2) (tdOp dIx (tdVar 1) (tdC (.int 1))) (tdTup (tdCons (tdVar 3) (tdCons (tdVar 4) (tdCons (tdC (.int 1)) tdNil)))))
    (tsRet (tdFrzI (tdMake C.st (sp_Store_init C) (tdCons (tdVar 2) (tdCons (tdFld C.st "aisle" (tdVar 0)) (tdCons (tdFld C.st "kept_wishes" (tdVar 0)) tdNil))))))))))
theorem q_changed (C : CC) : Qd_ (sp_changed C) (td_changed C) 6 := by
  rintro ds W Qd Ed ⟨s, c, rfl, hs, hc, h⟩
  have hso := chg_ok hs hc
  cases c with
  | late w =>
    have h1 := hc.1
    simp [td_changed, Chg.d, sizeLine, -Wish.d, -Shelf.d]
    refine ⟨by omega, fun a ha => ?_⟩
    refine ⟨a, chg s (.late w), .lst (s.shelves.map Shelf.d), .lst ((s.wishes ++ [w]).map Wish.d), by simp [chg, -Wish.d], .inl rfl, .inl rfl, hso, updW_same, ?_⟩
    refine ⟨rfl, ?_⟩
    simp [updW_same, updW_updW, delW_updW ha, -Shelf.d, -Wish.d]
    exact ⟨_, _, ⟨rfl, rfl⟩, Dr.self h⟩
  | sticks j =>
    have hj : j < s.shelves.length := hc
    simp [td_changed, Chg.d, sizeLine, -Wish.d, -Shelf.d]
    intro p hp
    have hsj := shelfAt_get (s := s) (i := (j : Nat)) ⟨by omega, by omega⟩
    simp [updW_same, hsj, updW_updW, sizeLine, -Wish.d]
    have hset : (s.shelves.map Shelf.d).set j (D.tup [D.int (shelfAt s (j : Nat)).room, D.int (shelfAt s (j : Nat)).has, D.int 1]) = (stuck s j).shelves.map Shelf.d := by
      rw [stuck_set hj, List.map_set]; rfl
    rw [hset]
    refine ⟨hj, fun a ha => ?_⟩
    have hap : a ≠ p := by rintro rfl; rw [updW_same] at ha; cases ha
    rw [updW_ne hap] at ha
    refine ⟨a, stuck s j, .ref p, .lst (s.wishes.map Wish.d), rfl, .inr ⟨p, rfl, by rw [updW_ne hap.symm, updW_same]⟩, .inl rfl, hso, updW_same, ?_⟩
    refine ⟨rfl, ?_⟩
    refine ⟨_, _, by rw [updW_updW, updW_same], ?_⟩
    refine Dr.of (fun q => ?_) h
    by_cases e : q = p
    · exact .inl (by rw [e]; exact hp)
    · right
      by_cases e2 : q = a
      · rw [e2, delW_same]; exact ha
      · rw [delW_ne e2, updW_ne e2, updW_ne e2, updW_ne e]
theorem dSl_isL {W : Wd} {d : D} {xs : List D} (h : isL W d xs) (lo hi : Option Int) (Q : QD) : dSl d lo hi W Q = Q (.lst (DL.cutD xs lo hi)) W := by
  rcases h with rfl | ⟨a, rfl, h⟩
  · rfl
  · simp [h]
def sp_mended (C : CC) : SpD := fun ds W Q _ => ∃ (s : Store) (d : D) (ts : List Step) (at_ : Nat) (c : Chg), ds = [s.o C, d, .int (at_ : Nat), c.d] ∧ s.Ok ∧ c.Ok s ∧ isL W d (ts.map Step.d) ∧ ts.length ≤ 100000 ∧ free s (begin_ s) ts ∧ at_ ≤ ts.length ∧
  (bestO (chg s c) (last_ s (begin_ s) (ts.take at_)) = none → ∀ q, W q = none → Q (.tup [.str "none", .ref q]) (updW W q (.lst ((paperOf (chg s c) (last_ s (begin_ s) (ts.take at_))).map papD)))) ∧
  ∀ v, bestO (chg s c) (last_ s (begin_ s) (ts.take at_)) = some v → ∀ p rest, W p = none → PlanOf (chg s c) (last_ s (begin_ s) (ts.take at_)) rest v → rest.length ≤ 3072 → Q (.tup [.str "plan", .ref p, .int (shs (ts.take at_) + v.1)]) (updW W p (.lst ((ts.take at_ ++ rest).map Step.d)))
def td_mended (C : CC) : TSd :=
  (tsSeq (tsFor (tiSeq (tdVar 1)) (.name 4) (tsDrop (tdCall (sp_need_step C) (tdCons (tdVar 0) (tdCons (tdVar 4) tdNil)))))
    (tsSeq (tsDrop (tdCall (sp_need_change C) (tdCons (tdVar 0) (tdCons (tdVar 3) tdNil))))
    (tsSeq (tsIf (tdNotT (tdB (tdChain dLe dLe (tdC (.int 0)) (tdVar 2) (tdCB dLen (tdCons (tdVar 1) tdNil))))) tsNever tsNext)
    (tsSeq (tsAsg (tdCB dList (tdCons (tdSl (tdVar 1) tdNoPart (tdPart (tdVar 2))) tdNil)) (.name 5))
    (tsSeq (tsAsg (tdOp dIx (tdFrz (tdCall (sp_gone C) (tdCons (tdVar 0) (tdCons (tdCall (sp_begin C) (tdCons (tdVar 0) tdNil)) (tdCons (tdVar 5) tdNil))))) (tdUn dNeg (tdC (.int 1)))) (.name 6))
    (tsSeq (tsAsg (tdMake C.se (sp_Search_init C) (tdCons (tdCall (sp_changed C) (tdCons (tdVar 0) (tdCons (tdVar 3) tdNil))) (tdCons (tdVar 6) tdNil))) (.name 7))
    (tsSeq (tsIf (tdB (tdOp (dInN C.hs true) (tdVar 6) (tdFld C.se "best" (tdVar 7)))) (tsRet (tdTup (tdCons (tdC (.str "none")) (tdCons (tdMeth C.se "paper" (sp_Search_paper C) (tdVar 7) tdNil) tdNil)))) tsNext)
    (tsRet (tdTup (tdCons (tdC (.str "plan")) (tdCons (tdOp dAddVM (tdVar 5) (tdMeth C.se "plan" (sp_Search_plan C) (tdVar 7) tdNil)) (tdCons (tdOp dAdd (tdCall (sp_shifts C) (tdCons (tdVar 0) (tdCons (tdVar 5) tdNil))) (tdOp dIx (tdOp (dIxN C.hs) (tdFld C.se "best" (tdVar 7)) (tdVar 6)) (tdC (.int 0)))) tdNil))))))))))))
theorem q_mended (C : CC) : Qd_ (sp_mended C) (td_mended C) 8 := by
  rintro ds W Qd Ed ⟨s, d, ts, at_, c, rfl, hs, hc, hd, hl, hf, hat, h0, h1⟩
  have hm := hs.m5
  simp only [td_mended, tsSeq, tsFor]
  refine hd.seq (by simp) ?_
  refine forL_inv (α := Step) Step.d (fun as ρ W' => W' = W ∧ (∀ t ∈ as, Step.Ok s t) ∧ ∃ a, ρ = [some (s.o C), some d, some (.int (at_ : Nat)), some c.d, a, none, none, none]) ?_ ?_ _ _ _ ⟨rfl, free_mem hf, _, rfl⟩
  · rintro ρ W' ⟨rfl, _, a, rfl⟩
    refine ⟨hd.gl, ?_⟩
    simp [-State.d]
    refine ⟨s, c, rfl, hs, hc, ?_⟩
    rcases hd with rfl | ⟨dd, rfl, hdd⟩
    · simp [hat, -State.d]
      have ecut : DL.cutD (ts.map Step.d) none (some (at_ : Int)) = (ts.take at_).map Step.d := by rw [cutD_to, List.map_take]
      rw [ecut]
      have hft := free_take at_ hf
      have hbi := begin_in hs
      have hlt : (ts.take at_).length ≤ 100000 := by rw [List.length_take]; omega
      refine ⟨s, begin_ s, .lst ((ts.take at_).map Step.d), ts.take at_, rfl, .inl rfl, hs, hbi.ok, hlt, hft, fun g hg => ?_⟩
      obtain ⟨sl, el⟩ := states_split s (begin_ s) (ts.take at_)
      have hgl : getI ((states s (begin_ s) (ts.take at_)).map State.d) (-1) = some (last_ s (begin_ s) (ts.take at_)).d := by rw [el, List.map_append]; exact getI_last _ _
      refine ⟨g, rfl, _, updW_same, ?_⟩
      rw [delW_updW hg, hgl]
      have hxs := last_in hs hbi hft
      generalize last_ s (begin_ s) (ts.take at_) = x at *
      simp only [optQ_some]
      refine ⟨s, c, rfl, hs, hc, fun a ha => ?_⟩
      have hso := chg_ok hs hc
      have hx' := chg_in hc hxs
      refine ⟨a, chg s c, x, rfl, updW_same, hso, hx', fun pf pn pb l b W1 X => ⟨rfl, ?_⟩⟩
      have hx0 : x ∈ l := (X.fnd.mem _).mpr .start
      have hlen := many hso X.fnd.nd (X.fnd.in hso hx')
      have hsub := X.sub ha
      have eb := best_bestO X.bt hx0
      simp [fs_best X.st.me, X.tb, getN_enc, ms_any X.st.me, -State.d]
      cases e : lookT b x with
      | none =>
        simp
        refine ⟨a, pf, pn, pb, chg s c, x, l, b, rfl, hso, hx', X.fnd, X.st, X.tb, X.bt, fun q hq => ?_⟩
        refine ⟨by simp [sizeLine], ?_⟩
        exact Dr.of (sub_upd2 hsub) (h0 (by rw [← eb]; exact e) q (sub_none hsub hq))
      | some v =>
        simp [-State.d]
        have hvl := best_len X.fnd.closed X.bt.on hx0 e
        refine ⟨a, pf, pn, pb, chg s c, x, l, b, v, rfl, hso, hx', X.fnd, X.st, X.tb, X.bt, e, fun p rest hp hP => ?_⟩
        have hrl := hP.len
        have hW2 : viewW (updW W1 p (.lst (rest.map Step.d))) (.ref p) = .lst (rest.map Step.d) := viewW_ref _ updW_same
        simp only [hW2, ← List.map_take]
        have hst2 := X.st.upd (c := .lst (rest.map Step.d)) hp
        refine ⟨by rw [List.length_map, List.length_map, List.length_take]; unfold sizeLine; omega, fun q hq => ?_⟩
        have hqp : q ≠ p := by rintro rfl; rw [updW_same] at hq; cases hq
        have hq1 : W1 q = none := by rw [updW_ne hqp] at hq; exact hq
        have hst3 := hst2.upd (c := .lst ((ts.take at_).map Step.d ++ rest.map Step.d)) hq
        have tb3 : updW (updW W1 p (.lst (rest.map Step.d))) q (.lst ((ts.take at_).map Step.d ++ rest.map Step.d)) pb = some (.dn C.hs (encT pairD b)) := by rw [updW_ne (ne_of_W X.tb hq1), updW_ne (ne_of_W X.tb hp)]; exact X.tb
        refine sp_shifts_s (.inl rfl) hs hlt (free_mem hft) ?_
        simp only [fs_best hst3.me]
        refine ⟨_, isN_ref.mpr tb3, pairD v, by rw [getN_enc, e]; rfl, ?_⟩
        simp
        refine ⟨by simp [sizeLine], ?_⟩
        have := h1 v (by rw [← eb]; exact e) q rest (sub_none hsub hq1) hP (by omega)
        rw [List.map_append] at this
        refine Dr.of (fun r => ?_) (by simpa [-Step.d] using this)
        by_cases er : r = q
        · exact .inr (by rw [er, updW_same, updW_same, ← List.map_take])
        · rw [updW_ne er, updW_ne er]
          by_cases ep : r = p
          · exact .inl (by rw [ep]; exact sub_none hsub hp)
          · rw [updW_ne ep]; exact hsub r
    · simp [hat, hdd, -State.d]
      have ecut : DL.cutD (ts.map Step.d) none (some (at_ : Int)) = (ts.take at_).map Step.d := by rw [cutD_to, List.map_take]
      rw [ecut]
      have hft := free_take at_ hf
      have hbi := begin_in hs
      have hlt : (ts.take at_).length ≤ 100000 := by rw [List.length_take]; omega
      refine ⟨s, begin_ s, .lst ((ts.take at_).map Step.d), ts.take at_, rfl, .inl rfl, hs, hbi.ok, hlt, hft, fun g hg => ?_⟩
      obtain ⟨sl, el⟩ := states_split s (begin_ s) (ts.take at_)
      have hgl : getI ((states s (begin_ s) (ts.take at_)).map State.d) (-1) = some (last_ s (begin_ s) (ts.take at_)).d := by rw [el, List.map_append]; exact getI_last _ _
      refine ⟨g, rfl, _, updW_same, ?_⟩
      rw [delW_updW hg, hgl]
      have hxs := last_in hs hbi hft
      generalize last_ s (begin_ s) (ts.take at_) = x at *
      simp only [optQ_some]
      refine ⟨s, c, rfl, hs, hc, fun a ha => ?_⟩
      have hso := chg_ok hs hc
      have hx' := chg_in hc hxs
      refine ⟨a, chg s c, x, rfl, updW_same, hso, hx', fun pf pn pb l b W1 X => ⟨rfl, ?_⟩⟩
      have hx0 : x ∈ l := (X.fnd.mem _).mpr .start
      have hlen := many hso X.fnd.nd (X.fnd.in hso hx')
      have hsub := X.sub ha
      have eb := best_bestO X.bt hx0
      simp [fs_best X.st.me, X.tb, getN_enc, ms_any X.st.me, -State.d]
      cases e : lookT b x with
      | none =>
        simp
        refine ⟨a, pf, pn, pb, chg s c, x, l, b, rfl, hso, hx', X.fnd, X.st, X.tb, X.bt, fun q hq => ?_⟩
        refine ⟨by simp [sizeLine], ?_⟩
        exact Dr.of (sub_upd2 hsub) (h0 (by rw [← eb]; exact e) q (sub_none hsub hq))
      | some v =>
        simp [-State.d]
        have hvl := best_len X.fnd.closed X.bt.on hx0 e
        refine ⟨a, pf, pn, pb, chg s c, x, l, b, v, rfl, hso, hx', X.fnd, X.st, X.tb, X.bt, e, fun p rest hp hP => ?_⟩
        have hrl := hP.len
        have hW2 : viewW (updW W1 p (.lst (rest.map Step.d))) (.ref p) = .lst (rest.map Step.d) := viewW_ref _ updW_same
        simp only [hW2, ← List.map_take]
        have hst2 := X.st.upd (c := .lst (rest.map Step.d)) hp
        refine ⟨by rw [List.length_map, List.length_map, List.length_take]; unfold sizeLine; omega, fun q hq => ?_⟩
        have hqp : q ≠ p := by rintro rfl; rw [updW_same] at hq; cases hq
        have hq1 : W1 q = none := by rw [updW_ne hqp] at hq; exact hq
        have hst3 := hst2.upd (c := .lst ((ts.take at_).map Step.d ++ rest.map Step.d)) hq
        have tb3 : updW (updW W1 p (.lst (rest.map Step.d))) q (.lst ((ts.take at_).map Step.d ++ rest.map Step.d)) pb = some (.dn C.hs (encT pairD b)) := by rw [updW_ne (ne_of_W X.tb hq1), updW_ne (ne_of_W X.tb hp)]; exact X.tb
        refine sp_shifts_s (.inl rfl) hs hlt (free_mem hft) ?_
        simp only [fs_best hst3.me]
        refine ⟨_, isN_ref.mpr tb3, pairD v, by rw [getN_enc, e]; rfl, ?_⟩
        simp
        refine ⟨by simp [sizeLine], ?_⟩
        have := h1 v (by rw [← eb]; exact e) q rest (sub_none hsub hq1) hP (by omega)
        rw [List.map_append] at this
        refine Dr.of (fun r => ?_) (by simpa [-Step.d] using this)
        by_cases er : r = q
        · exact .inr (by rw [er, updW_same, updW_same, ← List.map_take])
        · rw [updW_ne er, updW_ne er]
          by_cases ep : r = p
          · exact .inl (by rw [ep]; exact sub_none hsub hp)
          · rw [updW_ne ep]; exact hsub r
  · rintro t as ρ W' Nx ⟨rfl, ht, a, rfl⟩ hN
    refine ⟨hd.gl, ?_⟩
    simp [-Step.d]
    exact sp_need_step_s (ht t List.mem_cons_self) (by omega) (hN _ _ ⟨rfl, fun u hu => ht u (List.mem_cons_of_mem _ hu), _, rfl⟩)
end AI

/-! PL7: all states that are come to, the least, are there. Plain. -/
namespace AI
open PySem PySem.Spec PyProof.Rows L2 DL
theorem nodup_of {p : State → Prop} : ∀ l : List State, ∃ m : List State, m.Nodup ∧ ∀ y, y ∈ m ↔ y ∈ l ∧ p y
  | [] => ⟨[], by simp, by simp⟩
  | a :: l => by
    obtain ⟨m, h1, h2⟩ := nodup_of (p := p) l
    by_cases h : p a ∧ a ∉ m
    · refine ⟨a :: m, List.nodup_cons.mpr ⟨h.2, h1⟩, fun y => ?_⟩
      rw [List.mem_cons, List.mem_cons, h2]
      constructor
      · rintro (rfl | ⟨q1, q2⟩)
        · exact ⟨.inl rfl, h.1⟩
        · exact ⟨.inr q1, q2⟩
      · rintro ⟨rfl | q1, q2⟩
        · exact .inl rfl
        · exact .inr ⟨q1, q2⟩
    · refine ⟨m, h1, fun y => ?_⟩
      rw [List.mem_cons, h2]
      constructor
      · rintro ⟨q1, q2⟩; exact ⟨.inr q1, q2⟩
      · rintro ⟨rfl | q1, q2⟩
        · have : y ∈ m := Classical.byContradiction fun z => h ⟨q2, z⟩
          exact (h2 y).mp this
        · exact ⟨q1, q2⟩
theorem found_ex {s : Store} {x0 : State} (hs : s.Ok) (h0 : x0.In s) : ∃ l, Found s x0 l := by
  obtain ⟨m, h1, h2⟩ := nodup_of (p := Reach s x0) (allStates s)
  exact ⟨m, h1, fun y => (h2 y).trans ⟨fun h => h.2, fun h => ⟨mem_all (h.in hs h0), h⟩⟩⟩
theorem best_ex (s : Store) (x : State) : ∃ o, IsBest s x o := by
  by_cases h : ∃ a b, Way s x a b
  · have key : ∀ (n m : Nat) (a b : Int), Way s x a b → a.toNat = n → b.toNat = m → ∃ v, Best s x v := by
      intro n
      induction n using Nat.strongRecOn with
      | _ n ihn =>
        intro m
        induction m using Nat.strongRecOn with
        | _ m ihm =>
          intro a b w ha hb
          by_cases z : ∃ c d, Way s x c d ∧ lt2 (c, d) (a, b)
          · obtain ⟨c, d, w2, hl⟩ := z
            have n1 := w.nonneg
            have n2 := w2.nonneg
            unfold lt2 at hl
            simp only at hl
            rcases hl with hl | ⟨hl, hl2⟩
            · exact ihn c.toNat (by omega) d.toNat c d w2 rfl rfl
            · exact ihm d.toNat (by omega) c d w2 (by omega) rfl
          · exact ⟨(a, b), w, fun c d w2 => not_lt2.mp fun q => z ⟨c, d, w2, q⟩⟩
    obtain ⟨a, b, w⟩ := h
    obtain ⟨v, hv⟩ := key _ _ a b w rfl rfl
    exact ⟨some v, hv⟩
  · exact ⟨none, fun a b w => h ⟨a, b, w⟩⟩
theorem bestO_is (s : Store) (x : State) : IsBest s x (bestO s x) := by
  obtain ⟨o, h⟩ := best_ex s x
  rw [bestO_of h]; exact h
end AI

/-! XS1: steps that are none, plans with such, plans barred: with what is raised. -/
namespace AI.X
open PySem PySem.Spec PyProof.Rows L2 DL AI

/-- a step by its word -/
structure RStep where
  w : String
  xs : List Int
@[simp] def RStep.d (r : RStep) : D := .tup (.str (Str.ofString r.w) :: r.xs.map .int)
def rB (s : Store) (r : RStep) : Bool := match r.xs with
  | [] => decide (r.w = "wait")
  | [i] => (decide (r.w = "shift") && decide (i = -1 ∨ i = 1)) || (decide (r.w = "in" ∨ r.w = "out") && decide (i = 0 ∨ i = 1)) || (decide (r.w = "do") && decide (0 ≤ i ∧ i < s.wishes.length))
  | _ => false
def rOf : Step → RStep
  | .wait => ⟨"wait", []⟩
  | .shift i => ⟨"shift", [i]⟩
  | .ent i => ⟨"in", [i]⟩
  | .out i => ⟨"out", [i]⟩
  | .fin i => ⟨"do", [i]⟩
theorem rOf_d (t : Step) : (rOf t).d = t.d := by cases t <;> rfl
theorem rOf_ds (ts : List Step) : (ts.map rOf).map RStep.d = ts.map Step.d := by
  rw [List.map_map]
  exact List.map_congr_left fun t _ => rOf_d t
theorem rB_of {s : Store} {t : Step} (h : t.Ok s) : rB s (rOf t) = true := by
  have h := h.ok
  cases t with
  | wait => rfl
  | shift i => simp only at h; simp [rB, rOf, h]
  | ent i => simp only at h; simp [rB, rOf, h]
  | out i => simp only at h; simp [rB, rOf, h]
  | fin i => have h : InW s i := h; unfold InW at h; simp [rB, rOf, h]
theorem rB_step {s : Store} {r : RStep} (h : rB s r = true) : ∃ t : Step, t.Ok s ∧ rOf t = r := by
  obtain ⟨w, xs⟩ := r
  match xs with
  | [] => simp [rB] at h; subst h; exact ⟨.wait, ⟨trivial⟩, rfl⟩
  | [i] =>
    simp [rB] at h
    rcases h with (⟨rfl, h⟩ | ⟨rfl | rfl, h⟩) | ⟨rfl, h⟩
    · exact ⟨.shift i, ⟨h⟩, rfl⟩
    · exact ⟨.ent i, ⟨h⟩, rfl⟩
    · exact ⟨.out i, ⟨h⟩, rfl⟩
    · exact ⟨.fin i, ⟨h⟩, rfl⟩
  | _ :: _ :: _ => simp [rB] at h
theorem rB_steps {s : Store} : ∀ {rs : List RStep}, (∀ r ∈ rs, rB s r = true) → ∃ ts : List Step, (∀ t ∈ ts, t.Ok s) ∧ ts.map rOf = rs
  | [], _ => ⟨[], by simp, rfl⟩
  | r :: rs, h => by
    obtain ⟨t, h1, h2⟩ := rB_step (h r List.mem_cons_self)
    obtain ⟨ts, h3, h4⟩ := rB_steps fun u hu => h u (List.mem_cons_of_mem _ hu)
    exact ⟨t :: ts, fun u hu => by rcases List.mem_cons.mp hu with rfl | hu; exact h1; exact h3 u hu, by rw [List.map_cons, h2, h4]⟩
def sp_need_step (C : CC) : SpD := fun ds W Q E => ∃ (s : Store) (r : RStep), ds = [s.o C, r.d] ∧ s.wishes.length ≤ 1000 ∧ r.xs.length ≤ 60 ∧ if rB s r = true then Q .non W else E C.badStep [] W
def td_need_step (C : CC) : TSd :=
  (tsSeq (tsIf (tdB (tdOp dEq (tdVar 1) (tdC (.tup [(.str "wait")])))) tsRetN tsNext)
    (tsSeq (tsIf (tdOr (tdB (tdOp dNe (tdCB dLen (tdCons (tdVar 1) tdNil)) (tdC (.int 2)))) (tdB (tdOp (dIn true) (tdOp dIx (tdVar 1) (tdC (.int 0))) (tdTup (tdCons (tdC (.str "shift")) (tdCons (tdC (.str "in")) (tdCons (tdC (.str "out")) (tdCons (tdC (.str "do")) tdNil)))))))) (tsRaise0 C.badStep (tdCons (tdC (.str "no step")) tdNil)) tsNext)
    (tsSeq (tsAsg (tdDisp ["shift", "in", "out", "do"] (tdCons (tdTup (tdCons (tdUn dNeg (tdC (.int 1))) (tdCons (tdC (.int 1)) tdNil))) (tdCons (tdTup (tdCons (tdC (.int 0)) (tdCons (tdC (.int 1)) tdNil))) (tdCons (tdTup (tdCons (tdC (.int 0)) (tdCons (tdC (.int 1)) tdNil))) (tdCons (tdListRg (tdCB dLen (tdCons (tdFld C.st "kept_wishes" (tdVar 0)) tdNil))) tdNil))))) (.name 2))
    (tsIf (tdB (tdOp (dIn true) (tdOp dIx (tdVar 1) (tdC (.int 1))) (tdOp dIx (tdVar 2) (tdOp dIx (tdVar 1) (tdC (.int 0)))))) (tsRaise0 C.badStep (tdCons (tdC (.str "no such number")) tdNil)) tsNext))))
theorem q_need_step (C : CC) : Q_ (sp_need_step C) (td_need_step C) 3 := by
  rintro ds W Qd Ed ⟨s, ⟨w, xs⟩, rfl, hl, hx, h⟩
  have hl2 : (s.wishes.length : Int) ≤ 100000 := by omega
  match xs, hx, h with
  | [], _, h =>
    by_cases e : w = "wait"
    · subst e; simpa [td_need_step, rB] using h
    · simp [td_need_step, rB, e, sizeLine] at h ⊢; exact h
  | [i], _, h =>
    by_cases e1 : w = "shift"
    · subst e1; simp [td_need_step, sizeLine, rB, List.lookup] at h ⊢; exact ⟨hl2, by simpa [eq_comm] using h⟩
    by_cases e2 : w = "in"
    · subst e2; simp [td_need_step, sizeLine, rB, List.lookup] at h ⊢; exact ⟨hl2, by simpa [eq_comm] using h⟩
    by_cases e3 : w = "out"
    · subst e3; simp [td_need_step, sizeLine, rB, List.lookup] at h ⊢; exact ⟨hl2, by simpa [eq_comm] using h⟩
    by_cases e4 : w = "do"
    · subst e4; simp [td_need_step, sizeLine, rB, List.lookup, memD_rng] at h ⊢; exact ⟨hl2, h⟩
    · have n1 : ¬ "shift" = w := fun e => e1 e.symm
      have n2 : ¬ "in" = w := fun e => e2 e.symm
      have n3 : ¬ "out" = w := fun e => e3 e.symm
      have n4 : ¬ "do" = w := fun e => e4 e.symm
      simp [td_need_step, sizeLine, rB, e1, e2, e3, e4, n1, n2, n3, n4] at h ⊢
      exact h
  | i :: j :: l, hx, h =>
    have n : ¬ (l.length : Int) + 1 + 1 + 1 = 2 := by omega
    simp [td_need_step, rB, sizeLine, n] at h ⊢
    exact h
theorem sp_need_step_r {C : CC} {s : Store} {r : RStep} {W : Wd} {Q : QD} {E : XD} (h2 : s.wishes.length ≤ 1000) (h3 : r.xs.length ≤ 60) (h : if rB s r = true then Q .non W else E C.badStep [] W) : sp_need_step C [s.o C, r.d] W Q E := ⟨s, r, rfl, h2, h3, h⟩
theorem sp_need_step_s {C : CC} {s : Store} {t : Step} {W : Wd} {Q : QD} {E : XD} (h1 : t.Ok s) (h2 : s.wishes.length ≤ 1000) (h3 : Q .non W) : sp_need_step C [s.o C, t.d] W Q E := ⟨s, rOf t, by rw [rOf_d], h2, by cases t <;> simp [rOf], by rw [rB_of h1]; exact h3⟩
/-! ### plans, barred or not -/
/-- the first step that is barred: the rule, the number, which step -/
def firstBar (s : Store) : State → List Step → Nat → Option (String × Int × Nat)
  | _, [], _ => none
  | x, t :: ts, k => match bar s x t with
    | some (w, n) => some (w, n, k)
    | none => firstBar s (behind s x t) ts (k + 1)
theorem firstBar_cons (s : Store) (x : State) (t : Step) (ts : List Step) (k : Nat) : firstBar s x (t :: ts) k = match bar s x t with
    | some (w, n) => some (w, n, k)
    | none => firstBar s (behind s x t) ts (k + 1) := rfl
theorem firstBar_free {s : Store} : ∀ {ts : List Step} {x : State} {k : Nat}, (∀ t ∈ ts, t.Ok s) → firstBar s x ts k = none → free s x ts
  | [], _, _, _, _ => trivial
  | t :: ts, x, k, ho, h => by
    unfold firstBar at h
    cases e : bar s x t with
    | some p => rw [e] at h; cases h
    | none =>
      rw [e] at h
      exact ⟨e, ho t List.mem_cons_self, firstBar_free (fun u hu => ho u (List.mem_cons_of_mem _ hu)) h⟩
theorem free_firstBar {s : Store} : ∀ {ts : List Step} {x : State} {k : Nat}, free s x ts → firstBar s x ts k = none
  | [], _, _, _ => rfl
  | t :: ts, x, k, h => by
    unfold firstBar
    rw [h.1]
    exact free_firstBar h.2.2
def goneO (C : CC) (v : Option (String × Int × Nat)) (ok : Prop) (E : XD) (W : Wd) : Prop := match v with
  | none => ok
  | some (w, n, k) => E C.barred [("at", .int (k : Nat)), ("number", .int n), ("rule", .str (Str.ofString w))] W
theorem goneO_mono {C : CC} {v : Option (String × Int × Nat)} {ok ok' : Prop} {E E' : XD} {W W' : Wd} (h : goneO C v ok E W) (h1 : ok → ok') (h2 : ∀ c fs, E c fs W → E' c fs W') : goneO C v ok' E' W' := by
  cases v with
  | none => exact h1 h
  | some z => exact h2 _ _ h
def sp_gone (C : CC) : SpD := fun ds W Q E => ∃ (s : Store) (x : State) (d : D) (ts : List Step), ds = [s.o C, x.d, d] ∧ isL W d (ts.map Step.d) ∧ s.Ok ∧ x.Ok s ∧ ts.length ≤ 100000 ∧ (∀ t ∈ ts, t.Ok s) ∧ goneO C (firstBar s x ts 0) (∀ p, W p = none → Q (.ref p) (updW W p (.lst ((states s x ts).map State.d)))) E W
def td_gone (C : CC) : TSd :=
  (tsSeq (tsAsg (tdLstM (tdCons (tdVar 1) tdNil)) (.name 3))
    (tsSeq (tsFor (tiRange1 (tdCB dLen (tdCons (tdVar 2) tdNil))) (.name 4) (tsSeq (tsAsg (tdCall (sp_bar_of C) (tdCons (tdVar 0) (tdCons (tdOp dIx (tdVar 3) (tdUn dNeg (tdC (.int 1)))) (tdCons (tdOp dIx (tdVar 2) (tdVar 4)) tdNil)))) (.name 5))
    (tsSeq (tsIf (tdB (tdOp (dIs true) (tdVar 5) (tdC .non))) (tsRaise C.barred ["rule", "number", "at"] (tdCons (tdOp dIx (tdVar 5) (tdC (.int 0))) (tdCons (tdOp dIx (tdVar 5) (tdC (.int 1))) (tdCons (tdVar 4) tdNil)))) tsNext)
    (tsDrop (tdBM ty_append dAppend (tdVar 3) (tdCons (tdCall (sp_behind C) (tdCons (tdVar 0) (tdCons (tdOp dIx (tdVar 3) (tdUn dNeg (tdC (.int 1)))) (tdCons (tdOp dIx (tdVar 2) (tdVar 4)) tdNil)))) tdNil))))))
    (tsRet (tdVar 3))))
theorem q_gone (C : CC) : Qd_ (sp_gone C) (td_gone C) 6 := by
  rintro ds W Qd Ed ⟨s, x, d, ts, rfl, hd, hs, hx, hl, ho, h⟩
  simp [td_gone, sizeLine, -State.d, -Step.d]
  intro p hp
  have hd' : ∀ c, isL (updW W p c) d (ts.map Step.d) := fun c => hd.upd hp
  simp [(hd' _).len, -State.d, -Step.d]
  refine ⟨by omega, ?_⟩
  refine forL_inv (α := Nat) (fun i => .int (i : Nat)) (fun as ρ W' => ∃ n, n + as.length = ts.length ∧ as = List.range' n as.length ∧ free s x (ts.take n) ∧ firstBar s x ts 0 = firstBar s (last_ s x (ts.take n)) (ts.drop n) n ∧ W' = updW W p (.lst ((states s x (ts.take n)).map State.d)) ∧ ∃ a b, ρ = [some (s.o C), some x.d, some d, some (.ref p), a, b]) ?_ ?_ _ _ _ ⟨0, by simp, by simp [List.range_eq_range'], trivial, by simp [last_], by simp [states], _, _, rfl⟩
  · rintro ρ W' ⟨n, hn, _, hf, hb, rfl, a, b, rfl⟩
    refine ⟨trivial, ?_⟩
    simp at hn
    subst hn
    rw [List.drop_length] at hb
    have hb : firstBar s x ts 0 = none := hb
    rw [hb] at h
    simp [-State.d]
    exact Dr.self (h p hp)
  · rintro k as ρ W' Nx ⟨n, hn, hr, hf, hfb, rfl, a, b, rfl⟩ hN
    refine ⟨trivial, ?_⟩
    simp only [List.length_cons, List.range'_succ, List.cons.injEq] at hr hn
    obtain ⟨rfl, hr⟩ := hr
    have hkt : k < ts.length := by omega
    obtain ⟨l, el⟩ := states_split s x (ts.take k)
    have hok := ho _ (List.getElem_mem hkt)
    have hlo := last_ok hs hx hf
    have hg : getI ((states s x (ts.take k)).map State.d) (-1) = some (last_ s x (ts.take k)).d := by rw [el, List.map_append]; exact getI_last _ _
    have edr : ts.drop k = ts[k] :: ts.drop (k + 1) := List.drop_eq_getElem_cons hkt
    have et : ts.take (k + 1) = ts.take k ++ [ts[k]] := by rw [List.take_succ, List.getElem?_eq_getElem hkt]; rfl
    rw [edr, firstBar_cons] at hfb
    simp [updW_same, (hd' _).ix, hg, getI_nat, hkt, -State.d, -Step.d]
    simp only [State.d]
    rw [sp_bar_of_s]
    refine ⟨hs, hlo, hok, ?_⟩
    cases hb : bar s (last_ s x (ts.take k)) ts[k] with
    | some z =>
      obtain ⟨w, m⟩ := z
      rw [hb] at hfb
      simp only at hfb
      rw [hfb] at h
      simp
      exact Dr.of ((Sub.refl W).upd hp) h
    | none =>
      rw [hb] at hfb
      simp only at hfb
      simp [updW_same, (hd' _).ix, hg, getI_nat, hkt, ty_list_ref _ updW_same, updW_updW, -State.d, -Step.d]
      simp only [State.d]
      rw [sp_behind_s]
      refine ⟨hs, hlo, hok, ?_⟩
      simp [updW_same, updW_updW, -State.d, -Step.d, sizeLine, states_len]
      refine ⟨by omega, hN _ _ ⟨k + 1, by omega, hr, ?_, ?_, ?_, _, _, rfl⟩⟩
      · rw [et, free_snoc]; exact ⟨hf, hb, hok⟩
      · rw [et, last_snoc]; exact hfb
      · rw [et, states_snoc, List.map_append]
        rfl
/-! ### how many shifts -/
def td_shifts (C : CC) : TSd :=
  (tsSeq (tsFor (tiSeq (tdVar 1)) (.name 2) (tsDrop (tdCall (sp_need_step C) (tdCons (tdVar 0) (tdCons (tdVar 2) tdNil)))))
    (tsRet (tdCB dSumI (tdCons (tdLc (tiSeq (tdVar 1)) (.name 2) tdYes (tdCall (sp_shifts_of C) (tdCons (tdVar 2) tdNil)) [2]) tdNil))))
def sp_shifts (C : CC) : SpD := fun ds W Q E => ∃ (s : Store) (d : D) (rs : List RStep), ds = [s.o C, d] ∧ isL W d (rs.map RStep.d) ∧ s.Ok ∧ rs.length ≤ 100000 ∧ (∀ r ∈ rs, r.xs.length ≤ 60) ∧ ((∃ r ∈ rs, rB s r = false) → E C.badStep [] W) ∧ (∀ ts : List Step, (∀ t ∈ ts, t.Ok s) → ts.map rOf = rs → Q (.int (shs ts)) W)
theorem split_bad {s : Store} {r : RStep} {as : List RStep} (h : rB s r = true) : (∃ u ∈ r :: as, rB s u = false) ↔ ∃ u ∈ as, rB s u = false := by
  constructor
  · rintro ⟨u, hu, e⟩
    rcases List.mem_cons.mp hu with rfl | hu
    · rw [h] at e; cases e
    · exact ⟨u, hu, e⟩
  · rintro ⟨u, hu, e⟩; exact ⟨u, List.mem_cons_of_mem _ hu, e⟩
theorem shs_sum : ∀ ts : List Step, (ts.map sh).sum = shs ts
  | [] => rfl
  | t :: ts => by simp [shs, shs_sum ts]
theorem q_shifts (C : CC) : Q_ (sp_shifts C) (td_shifts C) 3 := by
  rintro ds W Qd Ed ⟨s, d, rs, rfl, hd, hs, hl, hx, hbad, h⟩
  have hm := hs.m5
  simp only [td_shifts, tsSeq, tsFor]
  refine hd.seq (by simp) ?_
  refine forL_inv (α := RStep) RStep.d (fun as ρ W' => W' = W ∧ (∃ us, us ++ as = rs ∧ ∀ r ∈ us, rB s r = true) ∧ ∃ a, ρ = [some (s.o C), some d, a]) ?_ ?_ _ _ _ ⟨rfl, ⟨[], rfl, by simp⟩, _, rfl⟩
  · rintro ρ W' ⟨rfl, ⟨us, eu, hg⟩, a, rfl⟩
    rw [List.append_nil] at eu
    subst eu
    obtain ⟨ts, hto, rfl⟩ := rB_steps hg
    have h := h ts hto rfl
    rw [rOf_ds] at hd ⊢
    rw [List.length_map] at hl
    refine ⟨hd.gl, ?_⟩
    simp [-Step.d]
    have hsum := shs_sum ts
    rcases hd with rfl | ⟨b, rfl, hb⟩
    · refine ⟨by simp [sizeLine]; omega, lcL_pure (α := Step) Step.d (fun _ => true) (fun t => .int (sh t)) _ trivial ?_ [] ?_⟩
      · intro t _ Kt Kf hk
        simpa [-Step.d] using hk
      · exact ⟨ts.map sh, by simp [Function.comp_def], by rw [hsum]; exact h⟩
    · simp only [hb]
      refine ⟨by simp [sizeLine]; omega, lcL_pure (α := Step) Step.d (fun _ => true) (fun t => .int (sh t)) _ hb ?_ [] ?_⟩
      · intro t _ Kt Kf hk
        simpa [-Step.d] using hk
      · exact ⟨ts.map sh, by simp [Function.comp_def], by rw [hsum]; exact h⟩
  · rintro r as ρ W' Nx ⟨rfl, ⟨us, eu, hg⟩, a, rfl⟩ hN
    refine ⟨hd.gl, ?_⟩
    have hr : r ∈ rs := by rw [← eu]; simp
    simp [-RStep.d]
    refine sp_need_step_r (by omega) (hx r hr) ?_
    by_cases e : rB s r = true
    · rw [if_pos e]
      exact hN _ _ ⟨rfl, ⟨us ++ [r], by simpa using eu, fun u hu => by
        rcases List.mem_append.mp hu with z | z
        · exact hg u z
        · rw [List.mem_singleton.mp z]; exact e⟩, _, rfl⟩
    · rw [if_neg e]
      exact hbad ⟨r, hr, by simpa using e⟩
theorem sp_shifts_s {C : CC} {s : Store} {d : D} {ts : List Step} {W : Wd} {Q : QD} {E : XD} (hd : isL W d (ts.map Step.d)) (hs : s.Ok) (hl : ts.length ≤ 100000) (hok : ∀ t ∈ ts, t.Ok s) (h : Q (.int (shs ts)) W) : sp_shifts C [s.o C, d] W Q E := by
  refine ⟨s, d, ts.map rOf, rfl, by rw [rOf_ds]; exact hd, hs, by rw [List.length_map]; exact hl, fun r hr => ?_, fun ⟨r, hr, e⟩ => ?_, fun us _ e => ?_⟩
  · obtain ⟨t, _, rfl⟩ := List.mem_map.mp hr
    cases t <;> simp [rOf]
  · obtain ⟨t, ht, rfl⟩ := List.mem_map.mp hr
    rw [rB_of (hok t ht)] at e; cases e
  · have : us = ts := map_inj (fun a b e => step_inj.mp (by rw [← rOf_d, ← rOf_d, e])) e
    rw [this]; exact h
/-! ### steps that are none -/
def sp_l_none (C : CC) : SpD := fun ds W Q _ => ∃ (p : Addr) (s : Store), ds = [.ref p, s.t] ∧ RowOk W p ∧ s.Ok ∧ ∀ (r : RStep) W', rB s r = false → r.xs.length ≤ 60 → RowE p W W' → Q r.d W'
def td_l_none (C : CC) : TSd :=
  (tsSeq (tsAsg (tdCall (sp_l_taken C) (tdCons (tdVar 0) (tdCons (tdOp dPow (tdC (.int 10)) (tdC (.int 6))) tdNil))) (.name 2))
    (tsSeq (tsAsg (tdLst (tdCons (tdTup (tdCons (tdC (.str "shift")) (tdCons (tdC (.int 0)) tdNil))) (tdCons (tdTup (tdCons (tdC (.str "shift")) (tdCons (tdOp dAdd (tdC (.int 2)) (tdVar 2)) tdNil))) (tdCons (tdTup (tdCons (tdC (.str "shift")) (tdCons (tdOp dSub (tdUn dNeg (tdC (.int 2))) (tdVar 2)) tdNil))) (tdCons (tdTup (tdCons (tdC (.str "in")) (tdCons (tdOp dAdd (tdC (.int 2)) (tdVar 2)) tdNil))) (tdCons (tdTup (tdCons (tdC (.str "in")) (tdCons (tdOp dSub (tdUn dNeg (tdC (.int 1))) (tdVar 2)) tdNil))) (tdCons (tdTup (tdCons (tdC (.str "out")) (tdCons (tdC (.int 2)) tdNil))) tdNil))))))) (.name 3))
    (tsSeq (tsAsg (tdOp dAdd (tdVar 3) (tdLst (tdCons (tdTup (tdCons (tdC (.str "out")) (tdCons (tdUn dNeg (tdC (.int 1))) tdNil))) (tdCons (tdTup (tdCons (tdC (.str "do")) (tdCons (tdOp dAdd (tdCB dLen (tdCons (tdOp dIx (tdVar 1) (tdC (.int 2))) tdNil)) (tdVar 2)) tdNil))) (tdCons (tdTup (tdCons (tdC (.str "do")) (tdCons (tdOp dSub (tdUn dNeg (tdC (.int 1))) (tdVar 2)) tdNil))) (tdCons (tdTup (tdCons (tdC (.str "wait")) (tdCons (tdC (.int 0)) tdNil))) (tdCons (tdTup (tdCons (tdC (.str "go")) (tdCons (tdC (.int 1)) tdNil))) (tdCons (tdTup (tdCons (tdC (.str "shift")) tdNil)) tdNil)))))))) (.name 3))
    (tsRet (tdOp dIx (tdOp dAdd (tdVar 3) (tdLst (tdCons (tdTup (tdCons (tdC (.str "do")) tdNil)) (tdCons (tdTup (tdCons (tdC (.str "in")) (tdCons (tdC (.int 0)) (tdCons (tdC (.int 0)) tdNil)))) (tdCons (tdTup (tdCons (tdC (.str "shift")) (tdCons (tdC (.int 1)) (tdCons (tdC (.int 1)) tdNil)))) (tdCons (tdTup (tdCons (tdC (.str "stay")) tdNil)) tdNil)))))) (tdCall (sp_l_taken C) (tdCons (tdVar 0) (tdCons (tdC (.int 16)) tdNil))))))))
theorem q_l_none (C : CC) : Q_ (sp_l_none C) (td_l_none C) 4 := by
  rintro ds W Qd Ed ⟨p, s, rfl, hr, hs, h⟩
  have hm := hs.m5
  simp [td_l_none, hr, sizeLine, Store.t, -Shelf.d, -Wish.d]
  intro far W1 hf hf' e1
  let L : List RStep := [⟨"shift", [0]⟩, ⟨"shift", [2 + far]⟩, ⟨"shift", [-2 - far]⟩, ⟨"in", [2 + far]⟩, ⟨"in", [-1 - far]⟩, ⟨"out", [2]⟩, ⟨"out", [-1]⟩, ⟨"do", [s.wishes.length + far]⟩, ⟨"do", [-1 - far]⟩, ⟨"wait", [0]⟩, ⟨"go", [1]⟩, ⟨"shift", []⟩, ⟨"do", []⟩, ⟨"in", [0, 0]⟩, ⟨"shift", [1, 1]⟩, ⟨"stay", []⟩]
  have bad : ∀ x ∈ L, rB s x = false ∧ x.xs.length ≤ 60 := by
    intro x hx
    simp only [L, List.mem_cons, List.not_mem_nil, or_false] at hx
    rcases hx with rfl | rfl | rfl | rfl | rfl | rfl | rfl | rfl | rfl | rfl | rfl | rfl | rfl | rfl | rfl | rfl <;> (simp [rB]; try omega)
  refine ⟨e1.1, fun i W2 hi hi' e2 => ?_⟩
  obtain ⟨x, ex, hx⟩ := getI_some (xs := L) (i := i) hi (by simpa [L] using hi')
  have e3 : getI (L.map RStep.d) i = some x.d := by rw [getI_map, ex]; rfl
  have := h x W2 (bad x hx).1 (bad x hx).2 (e1.trans e2)
  simp [L] at e3
  rw [e3]
  exact this
end AI.X

namespace AI.X
open PySem PySem.Spec PyProof.Rows L2 DL AI
abbrev QL : Str := ((("law" : Str) ++ ".<locals>.") ++ "<lambda>")
def dueD : Option (String × Int × Nat) → D
  | none => .non
  | some (w, n, k) => .tup [.str (Str.ofString w), .int n, .int (k : Nat)]
theorem okD_due (n : Nat) (v : Option (String × Int × Nat)) : okD (n + 1) (dueD v) = true := by
  cases v with
  | none => simp [dueD]
  | some z => obtain ⟨w, m, k⟩ := z; simp [dueD]
theorem viewW_due (W : Wd) (v : Option (String × Int × Nat)) : viewW W (dueD v) = dueD v := by
  cases v with
  | none => rfl
  | some z => obtain ⟨w, m, k⟩ := z; rfl
theorem rOf_short (t : Step) : (rOf t).xs.length ≤ 60 := by cases t <;> simp [rOf]
theorem cutD_frm {α : Type} (xs : List α) (n : Nat) : DL.cutD xs (some (n : Int)) none = xs.drop n := by
  unfold DL.cutD
  rw [HT.sIx_none, HT.sIx_nat]
  by_cases h : n ≤ xs.length
  · rw [Nat.min_eq_left h, List.take_of_length_le (by simp)]
  · rw [Nat.min_eq_right (by omega), List.drop_length, List.drop_of_length_le (by omega)]; simp

/-- how many steps go before the first that is barred -/
def goodN (s : Store) : State → List Step → Nat
  | _, [] => 0
  | x, t :: ts => match bar s x t with
    | some _ => 0
    | none => goodN s (behind s x t) ts + 1
theorem goodN_cons (s : Store) (x : State) (t : Step) (ts : List Step) : goodN s x (t :: ts) = match bar s x t with
    | some _ => 0
    | none => goodN s (behind s x t) ts + 1 := rfl
theorem goodN_le (s : Store) : ∀ (x : State) (ts : List Step), goodN s x ts ≤ ts.length
  | _, [] => Nat.le_refl _
  | x, t :: ts => by
    rw [goodN_cons]
    cases bar s x t with
    | some _ => simp
    | none => simp only [List.length_cons]; have := goodN_le s (behind s x t) ts; omega
theorem goodN_free {s : Store} : ∀ {x : State} {ts : List Step}, (∀ t ∈ ts, t.Ok s) → free s x (ts.take (goodN s x ts))
  | _, [], _ => trivial
  | x, t :: ts, h => by
    rw [goodN_cons]
    cases e : bar s x t with
    | some _ => trivial
    | none => exact ⟨e, h t List.mem_cons_self, goodN_free fun u hu => h u (List.mem_cons_of_mem _ hu)⟩
theorem goodN_drop {s : Store} : ∀ {x : State} {ts : List Step} (k : Nat), k ≤ ts.length → free s x (ts.take k) → goodN s x ts = k + goodN s (last_ s x (ts.take k)) (ts.drop k)
  | x, ts, 0, _, _ => by simp [last_]
  | x, [], k + 1, h, _ => by simp at h
  | x, t :: ts, k + 1, h, hf => by
    obtain ⟨h1, _, h3⟩ := hf
    rw [goodN_cons, h1]
    simp only
    rw [goodN_drop (ts := ts) k (by simpa using h) h3]
    show _ = _ + goodN s (last_ s (behind s x t) (ts.take k)) (ts.drop k)
    omega
def sp_l_due (C : CC) : SpD := fun ds W Q _ => ∃ (s : Store) (d : D) (ts : List Step), ds = [s.t, d] ∧ isL W d (ts.map Step.d) ∧ s.Ok ∧ ts.length ≤ 100000 ∧ (∀ t ∈ ts, t.Ok s) ∧
  Q (.tup [.lst ((states s (begin_ s) (ts.take (goodN s (begin_ s) ts))).map State.d), dueD (firstBar s (begin_ s) ts 0)]) W
def td_l_due (C : CC) : TSd :=
  (tsSeq (tsAsg (tdLstM (tdCons (tdCall (sp_l_begin C) (tdCons (tdVar 0) tdNil)) tdNil)) (.name 2))
    (tsSeq (tsFor (tiRange1 (tdCB dLen (tdCons (tdVar 1) tdNil))) (.name 3) (tsSeq (tsAsg (tdCall (sp_l_bar C) (tdCons (tdVar 0) (tdCons (tdOp dIx (tdVar 2) (tdUn dNeg (tdC (.int 1)))) (tdCons (tdOp dIx (tdVar 1) (tdVar 3)) tdNil)))) (.name 4))
    (tsSeq (tsIf (tdB (tdOp (dIs true) (tdVar 4) (tdC .non))) (tsRet (tdTup (tdCons (tdFrz (tdVar 2)) (tdCons (tdOp dAdd (tdVar 4) (tdTup (tdCons (tdVar 3) tdNil))) tdNil)))) tsNext)
    (tsDrop (tdBM ty_append dAppend (tdVar 2) (tdCons (tdCall (sp_l_behind C) (tdCons (tdVar 0) (tdCons (tdOp dIx (tdVar 2) (tdUn dNeg (tdC (.int 1)))) (tdCons (tdOp dIx (tdVar 1) (tdVar 3)) tdNil)))) tdNil))))))
    (tsRet (tdTup (tdCons (tdFrz (tdVar 2)) (tdCons (tdC .non) tdNil))))))
theorem q_l_due (C : CC) : Q_ (sp_l_due C) (td_l_due C) 5 := by
  rintro ds W Qd Ed ⟨s, d, ts, rfl, hd, hs, hl, ho, h⟩
  simp [td_l_due, sizeLine, Store.t, -State.d, -Step.d, -Shelf.d, -Wish.d]
  rw [← Store.t]
  refine ⟨s, rfl, ?_⟩
  simp [-State.d, -Step.d]
  intro p hp
  have hd' : ∀ c, isL (updW W p c) d (ts.map Step.d) := fun c => hd.upd hp
  simp [(hd' _).len, -State.d, -Step.d]
  refine ⟨by omega, ?_⟩
  refine forL_inv (α := Nat) (fun i => .int (i : Nat)) (fun as ρ W' => ∃ n, n + as.length = ts.length ∧ as = List.range' n as.length ∧ free s (begin_ s) (ts.take n) ∧ firstBar s (begin_ s) ts 0 = firstBar s (last_ s (begin_ s) (ts.take n)) (ts.drop n) n ∧ W' = updW W p (.lst ((states s (begin_ s) (ts.take n)).map State.d)) ∧ ∃ a b, ρ = [some s.t, some d, some (.ref p), a, b]) ?_ ?_ _ _ _ ⟨0, by simp, by simp [List.range_eq_range'], trivial, by simp [last_], by simp [states], _, _, rfl⟩
  · rintro ρ W' ⟨n, hn, _, hf, hb, rfl, a, b, rfl⟩
    refine ⟨trivial, ?_⟩
    simp at hn
    subst hn
    have eg := goodN_drop ts.length (Nat.le_refl _) hf
    rw [List.drop_length] at hb eg
    have hb : firstBar s (begin_ s) ts 0 = none := hb
    have eg : goodN s (begin_ s) ts = ts.length := eg
    rw [hb, eg] at h
    simp [updW_same, delW_updW hp, sizeLine, -State.d]
    simpa [dueD, -State.d] using h
  · rintro k as ρ W' Nx ⟨n, hn, hr, hf, hfb, rfl, a, b, rfl⟩ hN
    refine ⟨trivial, ?_⟩
    simp only [List.length_cons, List.range'_succ, List.cons.injEq] at hr hn
    obtain ⟨rfl, hr⟩ := hr
    have hkt : k < ts.length := by omega
    obtain ⟨l, el⟩ := states_split s (begin_ s) (ts.take k)
    have hok := ho _ (List.getElem_mem hkt)
    have hlo := last_ok hs (begin_ok s) hf
    have hg : getI ((states s (begin_ s) (ts.take k)).map State.d) (-1) = some (last_ s (begin_ s) (ts.take k)).d := by rw [el, List.map_append]; exact getI_last _ _
    have edr : ts.drop k = ts[k] :: ts.drop (k + 1) := List.drop_eq_getElem_cons hkt
    have et : ts.take (k + 1) = ts.take k ++ [ts[k]] := by rw [List.take_succ, List.getElem?_eq_getElem hkt]; rfl
    have eg := goodN_drop k (by omega) hf
    rw [edr, firstBar_cons] at hfb
    rw [edr, goodN_cons] at eg
    simp [updW_same, (hd' _).ix, hg, getI_nat, hkt, -State.d, -Step.d]
    rw [State.d, sp_l_bar_s]
    refine ⟨hs, hlo, hok, ?_⟩
    cases hb : bar s (last_ s (begin_ s) (ts.take k)) ts[k] with
    | some z =>
      obtain ⟨w, m⟩ := z
      rw [hb] at hfb eg
      simp only at hfb eg
      rw [hfb, eg] at h
      simp [updW_same, delW_updW hp, sizeLine, -State.d]
      simpa [dueD, -State.d] using h
    | none =>
      rw [hb] at hfb
      simp only at hfb
      simp [updW_same, (hd' _).ix, hg, getI_nat, hkt, ty_list_ref _ updW_same, updW_updW, -State.d, -Step.d]
      simp only [State.d]
      rw [sp_l_behind_s]
      refine ⟨hs, hlo, hok, ?_⟩
      simp [updW_same, updW_updW, -State.d, -Step.d, sizeLine, states_len]
      refine ⟨by omega, hN _ _ ⟨k + 1, by omega, hr, ?_, ?_, ?_, _, _, rfl⟩⟩
      · rw [et, free_snoc]; exact ⟨hf, hb, hok⟩
      · rw [et, last_snoc]; exact hfb
      · rw [et, states_snoc, List.map_append]
        rfl
theorem sp_l_due_s {C : CC} {s : Store} {d : D} {ts : List Step} {W : Wd} {Q : QD} {E : XD} (hd : isL W d (ts.map Step.d)) (hs : s.Ok) (hl : ts.length ≤ 100000) (ho : ∀ t ∈ ts, t.Ok s) (h : Q (.tup [.lst ((states s (begin_ s) (ts.take (goodN s (begin_ s) ts))).map State.d), dueD (firstBar s (begin_ s) ts 0)]) W) : sp_l_due C [s.t, d] W Q E := ⟨s, d, ts, rfl, hd, hs, hl, ho, h⟩
/-! ### what is asked with steps that may be none -/
def sp_barred (C : CC) : SpD := fun ds W Q E => ∃ (s : Store) (x : State) (r : RStep), ds = [s.o C, x.d, r.d] ∧ s.Ok ∧ x.Ok s ∧ r.xs.length ≤ 60 ∧ (rB s r = false → E C.badStep [] W) ∧ (∀ t : Step, t.Ok s → rOf t = r → Q (barD (bar s x t)) W)
def td_barred (C : CC) : TSd :=
  (tsSeq (tsDrop (tdCall (sp_need_step C) (tdCons (tdVar 0) (tdCons (tdVar 2) tdNil))))
    (tsRet (tdCall (sp_bar_of C) (tdCons (tdVar 0) (tdCons (tdVar 1) (tdCons (tdVar 2) tdNil))))))
theorem q_barred (C : CC) : Q_ (sp_barred C) (td_barred C) 3 := by
  rintro ds W Qd Ed ⟨s, x, r, rfl, hs, hx, hl, hbad, h⟩
  simp [td_barred, -RStep.d]
  refine sp_need_step_r (by have := hs.m5; omega) hl ?_
  by_cases e : rB s r = true
  · rw [if_pos e]
    obtain ⟨t, ht, rfl⟩ := rB_step e
    rw [rOf_d]
    try simp only [State.d]
    rw [sp_bar_of_s]
    exact ⟨hs, hx, ht, h t ht rfl⟩
  · rw [if_neg e]
    exact hbad (by simpa using e)
def sp_played (C : CC) : SpD := fun ds W Q E => ∃ (s : Store) (d : D) (rs : List RStep), ds = [s.o C, d] ∧ isL W d (rs.map RStep.d) ∧ s.Ok ∧ rs.length ≤ 100000 ∧ (∀ r ∈ rs, r.xs.length ≤ 60) ∧ ((∃ r ∈ rs, rB s r = false) → E C.badStep [] W) ∧
  (∀ ts : List Step, (∀ t ∈ ts, t.Ok s) → ts.map rOf = rs → goneO C (firstBar s (begin_ s) ts 0) (∀ p, W p = none → Q (.ref p) (updW W p (.lst ((states s (begin_ s) ts).map State.d)))) E W)
def td_played (C : CC) : TSd :=
  (tsSeq (tsFor (tiSeq (tdVar 1)) (.name 2) (tsDrop (tdCall (sp_need_step C) (tdCons (tdVar 0) (tdCons (tdVar 2) tdNil)))))
    (tsRet (tdCall (sp_gone C) (tdCons (tdVar 0) (tdCons (tdCall (sp_begin C) (tdCons (tdVar 0) tdNil)) (tdCons (tdVar 1) tdNil))))))
theorem q_played (C : CC) : Q_ (sp_played C) (td_played C) 3 := by
  rintro ds W Qd Ed ⟨s, d, rs, rfl, hd, hs, hl, hx, hbad, h⟩
  have hm := hs.m5
  simp only [td_played, tsSeq, tsFor]
  refine hd.seq (by simp) ?_
  refine forL_inv (α := RStep) RStep.d (fun as ρ W' => W' = W ∧ (∃ us, us ++ as = rs ∧ ∀ r ∈ us, rB s r = true) ∧ ∃ a, ρ = [some (s.o C), some d, a]) ?_ ?_ _ _ _ ⟨rfl, ⟨[], rfl, by simp⟩, _, rfl⟩
  · rintro ρ W' ⟨rfl, ⟨us, eu, hg⟩, a, rfl⟩
    rw [List.append_nil] at eu
    subst eu
    obtain ⟨ts, hto, rfl⟩ := rB_steps hg
    have h := h ts hto rfl
    rw [rOf_ds] at hd ⊢
    rw [List.length_map] at hl
    refine ⟨hd.gl, ?_⟩
    simp [-Step.d, -State.d]
    exact ⟨s, begin_ s, d, ts, rfl, hd, hs, begin_ok s, hl, hto, h⟩
  · rintro r as ρ W' Nx ⟨rfl, ⟨us, eu, hg⟩, a, rfl⟩ hN
    refine ⟨hd.gl, ?_⟩
    have hr : r ∈ rs := by rw [← eu]; simp
    simp [-RStep.d]
    refine sp_need_step_r (by omega) (hx r hr) ?_
    by_cases e : rB s r = true
    · rw [if_pos e]
      exact hN _ _ ⟨rfl, ⟨us ++ [r], by simpa using eu, fun u hu => by
        rcases List.mem_append.mp hu with z | z
        · exact hg u z
        · rw [List.mem_singleton.mp z]; exact e⟩, _, rfl⟩
    · rw [if_neg e]
      exact hbad ⟨r, hr, by simpa using e⟩
theorem sp_played_s {C : CC} {s : Store} {d : D} {ts : List Step} {W : Wd} {Q : QD} {E : XD} (hd : isL W d (ts.map Step.d)) (hs : s.Ok) (hl : ts.length ≤ 100000) (hok : ∀ t ∈ ts, t.Ok s) (h : goneO C (firstBar s (begin_ s) ts 0) (∀ p, W p = none → Q (.ref p) (updW W p (.lst ((states s (begin_ s) ts).map State.d)))) E W) : sp_played C [s.o C, d] W Q E := by
  refine ⟨s, d, ts.map rOf, rfl, by rw [rOf_ds]; exact hd, hs, by rw [List.length_map]; exact hl, fun r hr => ?_, fun ⟨r, hr, e⟩ => ?_, fun us _ e => ?_⟩
  · obtain ⟨t, _, rfl⟩ := List.mem_map.mp hr
    cases t <;> simp [rOf]
  · obtain ⟨t, ht, rfl⟩ := List.mem_map.mp hr
    rw [rB_of (hok t ht)] at e; cases e
  · have : us = ts := map_inj (fun a b e => step_inj.mp (by rw [← rOf_d, ← rOf_d, e])) e
    rw [this]; exact h
theorem bad_among {C : CC} {s : Store} {rs us : List RStep} {r : RStep} (hr : rB s r = false) : ∃ u ∈ rs ++ r :: us, rB s u = false := ⟨r, by simp, hr⟩
theorem no_good {s : Store} {rs : List RStep} (h : ∃ u ∈ rs, rB s u = false) {ts : List Step} (ho : ∀ t ∈ ts, t.Ok s) (e : ts.map rOf = rs) : False := by
  obtain ⟨u, hu, eu⟩ := h
  subst e
  obtain ⟨t, ht, rfl⟩ := List.mem_map.mp hu
  rw [rB_of (ho t ht)] at eu; cases eu

def tsu_l_word (C : CC) (a cl : Addr) (d : Option Addr) : TSd :=
  (tsSeq (tsIf (tdOr (tdB (tdIsX C cl a d [.bs, .bt] 1)) (tdNotT (tdB (tdIsX C cl a d [.ve] 1)))) (tsRet (tdC (.str "other"))) tsNext)
    (tsSeq (tsIf (tdB (tdIsX C cl a d [.ba] 1)) (tsRet (tdIf (tdB (tdIsX C cl a d [.bp] 1)) (tdC (.str "other")) (tdTup (tdCons (tdXf a d "rule" 1) (tdCons (tdXf a d "number" 1) (tdCons (tdXf a d "at" 1) tdNil)))))) tsNext)
    (tsRet (tdC (.str "step")))))
def tre_l_word (C : CC) : TSd :=
  (tsRet (tdC .non))
/-! ### what `_law_word` tells of what a lambda does -/
theorem word_none {C : CC} {tq : Wd → QD → XD → Prop} {f : Addr} {Q : QD} {W : Wd} (h : ∀ Qa Ea, (∀ d, Qa d W) → tq W Qa Ea) (hq : Q .non W) : tdWordB C.known (tsu_l_word C) (tre_l_word C) 1 2 tq f Q W := by
  simp [tre_l_word]
  exact h _ _ fun _ => hq
theorem word_bad {C : CC} (dis : C.Ok) {tq : Wd → QD → XD → Prop} {f : Addr} {Q : QD} {W : Wd} (h : ∀ Qa Ea, Ea C.badStep [] W → tq W Qa Ea) (hq : Q (.str "step") W) : tdWordB C.known (tsu_l_word C) (tre_l_word C) 1 2 tq f Q W := by
  simp [tre_l_word, tsu_l_word]
  refine h _ _ ⟨.inr (.inl rfl), fun b hb => ⟨fun _ => ?_, fun dd hdd => ?_⟩⟩
  · simp [isX, dis.n1.symm, dis.n4, dis.n5]
    exact hq
  · simp [isX, dis.n1.symm, dis.n4, dis.n5, updW_same]
    show Q _ (delW (updW W dd _) dd)
    rw [delW_updW hdd]
    exact hq
theorem word_barred {C : CC} (dis : C.Ok) {tq : Wd → QD → XD → Prop} {f : Addr} {Q : QD} {W : Wd} {w : String} {n : Int} {k : Nat} (h : ∀ Qa Ea, Ea C.barred [("at", .int (k : Nat)), ("number", .int n), ("rule", .str (Str.ofString w))] W → tq W Qa Ea) (hq : Q (.tup [.str (Str.ofString w), .int n, .int (k : Nat)]) W) : tdWordB C.known (tsu_l_word C) (tre_l_word C) 1 2 tq f Q W := by
  simp [tre_l_word, tsu_l_word]
  refine h _ _ ⟨.inr (.inr (.inl rfl)), fun b hb => ⟨fun e => (by cases e), fun dd hdd => ?_⟩⟩
  simp [isX, dis.n2.symm, dis.n4.symm, dis.n6, updW_same]
  refine ⟨.str (Str.ofString w), by simp [List.lookup], .int n, by simp [List.lookup], by simp [sizeLine], ?_⟩
  show Q _ (delW (updW W dd _) dd)
  rw [delW_updW hdd]
  exact hq
structure PlanM (r pl PT : Addr) (s : Store) (ts : List Step) (W : Wd) : Prop where
  row : RowOk W r
  ne : pl ≠ r
  cell : W pl = some (.lst (ts.map Step.d))
  ok : ∀ t ∈ ts, t.Ok s
  len : ts.length ≤ 24
  nt : PT ≠ r
  np : PT ≠ pl
  tab : W PT = some (.tab QL)
theorem PlanM.on {r pl PT : Addr} {s : Store} {ts : List Step} {W W' : Wd} (h : PlanM r pl PT s ts W) (e : RowE r W W') : PlanM r pl PT s ts W' := ⟨e.1, h.ne, by rw [e.2 pl h.ne]; exact h.cell, h.ok, h.len, h.nt, h.np, by rw [e.2 PT h.nt]; exact h.tab⟩
theorem PlanM.upd {r pl PT : Addr} {s : Store} {ts : List Step} {W : Wd} {a : Addr} {c : Cell} (h : PlanM r pl PT s ts W) (ha : W a = none) : PlanM r pl PT s ts (updW W a c) := by
  have n1 : a ≠ r := h.row.ne ha
  have n2 : pl ≠ a := ne_of_W h.cell ha
  have n3 : PT ≠ a := ne_of_W h.tab ha
  exact ⟨h.row.upd n1, h.ne, by rw [updW_ne n2]; exact h.cell, h.ok, h.len, h.nt, h.np, by rw [updW_ne n3]; exact h.tab⟩
def Ma (C : CC) (ns : List Int) (p pl PT : Addr) (s : Store) (ρ : DEnv) (W : Wd) : Prop := ∃ ts x, PlanM p pl PT s ts W ∧ State.Ok s x ∧ ∃ a6 a7, ρ = [some (.scr ns), some (.ref p), some s.t, some (s.o C), some (.ref pl), some x.d, a6, a7, none, none, none, none, none, none, none, none, none, none, none, none]
def Mc (C : CC) (ns : List Int) (p pl PT : Addr) (s : Store) (ts : List Step) (x : State) (S : List State) (gn : Nat) (a6 a7 : Option D) (ρ : DEnv) (W : Wd) : Prop := ∃ q, PlanM p pl PT s ts W ∧ (q ≠ p ∧ q ≠ pl ∧ q ≠ PT) ∧ W q = some (.lst (S.map State.d)) ∧
  ρ = [some (.scr ns), some (.ref p), some s.t, some (s.o C), some (.ref pl), some x.d, a6, a7, some (.lst (S.map State.d)), some (dueD (firstBar s (begin_ s) ts 0)), some (.lst (ts.map Step.d)), some (.lst ((ts.take gn).map Step.d)), some (.ref q), none, none, none, none, none, none, none]
theorem ne_of_none_W {p pl PT q : Addr} {s : Store} {ts : List Step} {W : Wd} (hq : W q = none) (h : PlanM p pl PT s ts W) : q ≠ p ∧ q ≠ pl ∧ q ≠ PT := ⟨h.row.ne hq, (fun e => by subst e; rw [h.cell] at hq; cases hq), fun e => by subst e; rw [h.tab] at hq; cases hq⟩
theorem okL_st (n : Nat) (xs : List State) : okL (n + 2) (xs.map State.d) = true := okL_map _ fun a _ => by simp
theorem states_oks {s : Store} (hs : s.Ok) : ∀ {x : State} {ts : List Step}, x.Ok s → free s x ts → ∀ y ∈ states s x ts, State.Ok s y
  | x, [], hx, _, y, hy => by simp [states] at hy; subst hy; exact hx
  | x, t :: ts, hx, hf, y, hy => by
    rcases List.mem_cons.mp hy with rfl | hy
    · exact hx
    · exact states_oks hs (behind_ok hs hx hf.2.1 hf.1) hf.2.2 y hy
def isShB : Step → Bool
  | .shift _ => true
  | _ => false
theorem shs_len : ∀ ts : List Step, shs ts = ((ts.filter isShB).length : Int)
  | [] => rfl
  | t :: ts => by
    cases t <;> simp [shs, sh, isShB, List.filter_cons, shs_len ts] <;> omega
def Me (C : CC) (ns : List Int) (p pl PT : Addr) (s : Store) (ts : List Step) (x : State) (S : List State) (gn : Nat) (a6 a7 : Option D) (ρ : DEnv) (W : Wd) : Prop := ∃ e12 e14, PlanM p pl PT s ts W ∧
  ρ = [some (.scr ns), some (.ref p), some s.t, some (s.o C), some (.ref pl), some x.d, a6, a7, some (.lst (S.map State.d)), some (dueD (firstBar s (begin_ s) ts 0)), some (.lst (ts.map Step.d)), some (.lst ((ts.take gn).map Step.d)), e12, none, e14, none, none, none, none, none]
def Mf (C : CC) (ns : List Int) (p pl PT : Addr) (s : Store) (ts : List Step) (x : State) (S : List State) (gn : Nat) (a6 a7 e12 e14 : Option D) (r : RStep) (j : Nat) (b18 b19 : Option D) (ρ : DEnv) (W : Wd) : Prop := PlanM p pl PT s ts W ∧
  ρ = [some (.scr ns), some (.ref p), some s.t, some (s.o C), some (.ref pl), some x.d, a6, a7, some (.lst (S.map State.d)), some (dueD (firstBar s (begin_ s) ts 0)), some (.lst (ts.map Step.d)), some (.lst ((ts.take gn).map Step.d)), e12, none, e14, none, some r.d, some (.int (j : Nat)), b18, b19]
def sp_law (C : CC) (PT : Addr) : SpD := fun ds W Q _ => ∃ (ns : List Int), ds = [.scr ns] ∧ W PT = some (.tab QL) ∧ ∀ W', Q (.bl true) W'
def td_lam0 (C : CC) : TD :=
  (tdFrz (tdCall (sp_played C) (tdCons (tdVar 3) (tdCons (tdVar 10) tdNil))))
def td_lam1 (C : CC) : TD :=
  (tdFrz (tdCall (sp_played C) (tdCons (tdVar 3) (tdCons (tdOp dAdd (tdOp dAdd (tdSl (tdVar 4) tdNoPart (tdPart (tdVar 17))) (tdLst (tdCons (tdVar 16) tdNil))) (tdSl (tdVar 4) (tdPart (tdVar 17)) tdNoPart)) tdNil))))
def td_lam2 (C : CC) : TD :=
  (tdCall (sp_shifts C) (tdCons (tdVar 3) (tdCons (tdOp dAdd (tdOp dAdd (tdSl (tdVar 4) tdNoPart (tdPart (tdVar 17))) (tdLst (tdCons (tdVar 16) tdNil))) (tdSl (tdVar 4) (tdPart (tdVar 17)) tdNoPart)) tdNil)))
def td_lam3 (C : CC) : TD :=
  (tdCall (sp_barred C) (tdCons (tdVar 3) (tdCons (tdVar 5) (tdCons (tdVar 16) tdNil))))
def td_law (C : CC) (PT : Addr) (L0 L1 L2 L3 : Obj → Addr → Prop) : TSd :=
  (tsSeq (tsAsg (tdLstM (tdCons (tdVar 0) (tdCons (tdC (.int 0)) (tdCons (tdC (.int 0)) tdNil)))) (.name 1))
    (tsSeq (tsAsg (tdCall (sp_l_store C) (tdCons (tdVar 1) tdNil)) (.name 2))
    (tsSeq (tsAsg (tdCall (sp_l_made C) (tdCons (tdVar 2) tdNil)) (.name 3))
    (tsSeq (tsAsg (tdLstM tdNil) (.name 4))
    (tsSeq (tsAsg (tdCall (sp_l_begin C) (tdCons (tdVar 2) tdNil)) (.name 5))
    (tsCut (tsFor (tiRange1 (tdCall (sp_l_taken C) (tdCons (tdVar 1) (tdCons (tdC (.int 25)) tdNil)))) (.name 6) (tsCut (tsAsg (tdOp dIx (tdLst (tdCons (tdCall (sp_l_steps C) (tdCons (tdVar 2) (tdCons (tdVar 5) tdNil))) (tdCons (tdCall (sp_l_every C) (tdCons (tdVar 2) tdNil)) tdNil))) (tdCB dInt (tdCons (tdOp dEq (tdCall (sp_l_taken C) (tdCons (tdVar 1) (tdCons (tdC (.int 9)) tdNil))) (tdC (.int 8))) tdNil))) (.name 7))
    (tsSeq (tsDrop (tdBM ty_append dAppend (tdVar 4) (tdCons (tdOp dIx (tdVar 7) (tdCall (sp_l_taken C) (tdCons (tdVar 1) (tdCons (tdCB dLen (tdCons (tdVar 7) tdNil)) tdNil)))) tdNil)))
    (tsIf (tdB (tdOp (dIs false) (tdCall (sp_l_bar C) (tdCons (tdVar 2) (tdCons (tdVar 5) (tdCons (tdOp dIx (tdVar 4) (tdUn dNeg (tdC (.int 1)))) tdNil)))) (tdC .non))) (tsAsg (tdCall (sp_l_behind C) (tdCons (tdVar 2) (tdCons (tdVar 5) (tdCons (tdOp dIx (tdVar 4) (tdUn dNeg (tdC (.int 1)))) tdNil)))) (.name 5)) tsNext))))
    (tsCut (tsAsg (tdCall (sp_l_due C) (tdCons (tdVar 2) (tdCons (tdVar 4) tdNil))) (.tup [8, 9]))
    (tsSeq (tsAsg (tdCB dList (tdCons (tdVar 4) tdNil)) (.name 10))
    (tsCut (tsIf (tdOr (tdB (tdOp dNe (tdWord (tdLam PT QL L0) QL (LtW [(L0, td_lam0 C), (L1, td_lam1 C), (L2, td_lam2 C), (L3, td_lam3 C)]) C.known (tsu_l_word C) (tre_l_word C) 1 2) (tdVar 9))) (tdB (tdOp dNe (tdVar 10) (tdVar 4)))) (tsRet (tdC (.bl false))) tsNext)
    (tsSeq (tsAsg (tdSl (tdVar 4) tdNoPart (tdPart (tdOp dSub (tdCB dLen (tdCons (tdVar 8) tdNil)) (tdC (.int 1))))) (.name 11))
    (tsCut (tsAsg (tdCall (sp_played C) (tdCons (tdVar 3) (tdCons (tdVar 11) tdNil))) (.name 12))
    (tsCut (tsIf (tdOr (tdB (tdOp dNe (tdVar 12) (tdVar 8))) (tdB (tdOp dNe (tdCall (sp_shifts C) (tdCons (tdVar 3) (tdCons (tdVar 4) tdNil))) (tdCB dLen (tdCons (tdLc (tiSeq (tdVar 4)) (.name 13) (tdB (tdOp dEq (tdOp dIx (tdVar 13) (tdC (.int 0))) (tdC (.str "shift")))) (tdVar 13) [13]) tdNil))))) (tsRet (tdC (.bl false))) tsNext)
    (tsSeq (tsAsg (tdLc (tiSeq (tdVar 8)) (.name 15) tdYes (tdCall (sp_is_end C) (tdCons (tdVar 3) (tdCons (tdVar 15) tdNil))) [15]) (.name 14))
    (tsCut (tsIf (tdB (tdOp dNe (tdVar 14) (tdLc (tiSeq (tdVar 8)) (.name 15) tdYes (tdAndV (tdOp dEq (tdCB dLen (tdCons (tdOp dIx (tdVar 15) (tdC (.int 1))) tdNil)) (tdCB dLen (tdCons (tdOp dIx (tdVar 2) (tdC (.int 2))) tdNil))) (tdOp dEq (tdOp dIx (tdVar 15) (tdC (.int 2))) (tdTup tdNil))) [15]))) (tsRet (tdC (.bl false))) tsNext)
    (tsCut (tsDrop (tdBM ty_append dAppend (tdVar 12) (tdCons (tdC (.int 0)) tdNil)))
    (tsSeq (tsAsg (tdCall (sp_l_none C) (tdCons (tdVar 1) (tdCons (tdVar 2) tdNil))) (.name 16))
    (tsCut (tsAsg (tdCall (sp_l_taken C) (tdCons (tdVar 1) (tdCons (tdOp dAdd (tdCB dLen (tdCons (tdVar 4) tdNil)) (tdC (.int 1))) tdNil))) (.name 17))
    (tsCut (tsAsg (tdLstM (tdCons (tdLam PT QL L1) tdNil)) (.name 18))
    (tsCut (tsDrop (tdBM ty_append dAppend (tdVar 18) (tdCons (tdLam PT QL L2) tdNil)))
    (tsCut (tsDrop (tdBM ty_append dAppend (tdVar 18) (tdCons (tdLam PT QL L3) tdNil)))
    (tsRet (tdAndV (tdOp dEq (tdLcW (tiSeq (tdVar 18)) (.name 19) (ttWord QL (LtW [(L0, td_lam0 C), (L1, td_lam1 C), (L2, td_lam2 C), (L3, td_lam3 C)]) C.known (tsu_l_word C) (tre_l_word C) 1 2 19 dNe (.str "step")) (tdVar 19) [19]) (tdLst tdNil)) (tdOp dEq (tdFrz (tdCall (sp_played C) (tdCons (tdVar 3) (tdCons (tdVar 11) tdNil)))) (tdVar 8))))))))))))))))))))))))
theorem q_law (C : CC) (dis : C.Ok) (PT : Addr) (L0 L1 L2 L3 : Obj → Addr → Prop) : ∀ ds W Qd Ed, sp_law C PT ds W Qd Ed → td_law C PT L0 L1 L2 L3 { nx := fun _ W' => Qd .non W', rt := Qd, ex := Ed } (startN 20 ds) W := by
  rintro ds W Qd Ed ⟨ns, rfl, hT, h⟩
  simp [td_law, sizeLine, -Shelf.d, -Wish.d, -Step.d, -State.d]
  intro p hp
  have hr : RowOk (updW W p (.lst [.scr ns, .int 0, .int 0])) p := ⟨_, _, _, by omega, updW_same⟩
  have hTp : PT ≠ p := ne_of_W hT hp
  refine sp_l_store_s hr fun s W1 hs e1 => ?_
  have hT1 : W1 PT = some (.tab QL) := by rw [e1.2 PT hTp, updW_ne hTp]; exact hT
  have hm5 := hs.m5
  have hn5 := hs.n5
  have hn1 := hs.n1
  simp [hs, -Shelf.d, -Wish.d, -Step.d, -State.d]
  intro pl hpl
  have hplp : pl ≠ p := e1.1.ne hpl
  have hTl : PT ≠ pl := ne_of_W hT1 hpl
  have r1 : RowOk (updW W1 pl (.lst [])) p := e1.1.upd hplp
  have P1 : PlanM p pl PT s [] (updW W1 pl (.lst [])) := ⟨r1, hplp, updW_same, by simp, by simp, hTp, hTl, by rw [updW_ne hTl]; exact hT1⟩
  refine ⟨Ma C ns p pl PT s, ?_, ?_⟩
  · simp [r1, -Shelf.d, -Wish.d, -Step.d, -State.d]
    intro n W2 hn0 hn1 e2
    refine ⟨by omega, ?_⟩
    refine forL_inv (α := Nat) (fun i => .int (i : Nat)) (fun as ρ W' => ∃ ts x a6 a7, ts.length + as.length = n.toNat ∧ PlanM p pl PT s ts W' ∧ State.Ok s x ∧ ρ = [some (.scr ns), some (.ref p), some s.t, some (s.o C), some (.ref pl), some x.d, a6, a7, none, none, none, none, none, none, none, none, none, none, none, none]) ?_ ?_ _ _ _ ⟨[], begin_ s, _, _, by simp, P1.on e2, begin_ok s, rfl⟩
    · rintro ρ W' ⟨ts, x, a6, a7, _, hP, hx, rfl⟩
      exact ⟨trivial, ⟨ts, x, hP, hx, _, _, rfl⟩⟩
    · rintro k as ρ W' Nx ⟨ts, x, a6, a7, hnl, hP, hx, rfl⟩ hN
      refine ⟨trivial, ?_⟩
      simp only [List.length_cons] at hnl
      have hel := every_len s
      have hsl : (stepsAt s x).length ≤ (every s).length := List.length_filter_le _ _
      have hsp : 0 < (stepsAt s x).length := List.length_pos_of_mem (stepsAt_iff.mpr ⟨⟨trivial⟩, rfl⟩ : Step.wait ∈ stepsAt s x)
      refine ⟨fun ρ W3 => ∃ (L : List Step) (a6 : Option D), (∀ t ∈ L, Step.Ok s t) ∧ 0 < L.length ∧ L.length ≤ 1000 ∧ RowE p W' W3 ∧ ρ = [some (.scr ns), some (.ref p), some s.t, some (s.o C), some (.ref pl), some x.d, a6, some (.lst (L.map Step.d)), none, none, none, none, none, none, none, none, none, none, none, none], ?_, ?_⟩
      · simp [-Step.d, -State.d]
        simp only [State.d]
        refine sp_l_steps_s hs hx ?_
        refine ⟨hs, by simp [sizeLine], hP.row, fun i W3 hi0 hi1 e3 => ?_⟩
        by_cases h4 : i = 8
        · exact ⟨every s, every_ok hs, by omega, by omega, e3, by rw [if_pos h4]⟩
        · exact ⟨stepsAt s x, fun t ht => (stepsAt_iff.mp ht).1, hsp, by omega, e3, by rw [if_neg h4]⟩
      · rintro ρ W3 ⟨L, a6', hL, h0, hL1, e3, rfl⟩
        have hP3 := hP.on e3
        have hc3 := hP3.cell
        simp [hc3, ty_list, e3.1, h0, -Step.d, -State.d]
        intro i W4 hi0 hi1 e4
        obtain ⟨t, et, ht⟩ := getI_some (xs := L) hi0 hi1
        have hto := hL t ht
        have hP4 := hP3.on e4
        have hc4 := hP4.cell
        have hlast : getI (ts.map Step.d ++ [t.d]) (-1) = some t.d := getI_last _ _
        have hPn : PlanM p pl PT s (ts ++ [t]) (updW W4 pl (.lst (ts.map Step.d ++ [t.d]))) := by
          refine ⟨e4.1.upd hplp, hplp, by rw [updW_same]; simp [-Step.d], fun u hu => ?_, by simp; omega, hTp, hTl, by rw [updW_ne hTl]; exact hP4.tab⟩
          rcases List.mem_append.mp hu with z | z
          · exact hP.ok u z
          · rw [List.mem_singleton.mp z]; exact hto
        simp [et, hc4, updW_same, hlast, -Step.d, -State.d]
        refine ⟨by have := hP.len; simp [sizeLine]; omega, ?_⟩
        simp only [State.d]
        rw [sp_l_bar_s]
        refine ⟨hs, hx, hto, ?_⟩
        cases hb : bar s x t with
        | none =>
          simp [updW_same, hlast, -Step.d, -State.d]
          rw [sp_l_behind_s]
          refine ⟨hs, hx, hto, ?_⟩
          exact hN _ _ ⟨ts ++ [t], behind s x t, _, _, by simp; omega, hPn, behind_ok hs hx hto hb, rfl⟩
        | some z =>
          obtain ⟨w, m⟩ := z
          simp [-Step.d, -State.d]
          exact hN _ _ ⟨ts ++ [t], x, _, _, by simp; omega, hPn, hx, rfl⟩
  rintro ρ W2 ⟨ts, x, hP, hx, a6, a7, rfl⟩
  have hlen := hP.len
  have hgl := goodN_le s (begin_ s) ts
  have hfr := goodN_free (x := begin_ s) hP.ok
  generalize hgn : goodN s (begin_ s) ts = gn at hgl hfr
  let S := states s (begin_ s) (ts.take gn)
  refine ⟨fun ρ W' => W2 = W' ∧ ρ = [some (.scr ns), some (.ref p), some s.t, some (s.o C), some (.ref pl), some x.d, a6, a7, some (.lst (S.map State.d)), some (dueD (firstBar s (begin_ s) ts 0)), none, none, none, none, none, none, none, none, none, none], ?_, ?_⟩
  · simp [-Step.d, -State.d, -Shelf.d, -Wish.d]
    refine sp_l_due_s (.inr ⟨pl, rfl, hP.cell⟩) hs (by omega) hP.ok ?_
    rw [hgn]
    simp [-State.d]
    rfl
  rintro _ _ ⟨rfl, rfl⟩
  simp only [tsSeq_u]
  simp [hP.cell, sizeLine, -Step.d, -State.d, -Shelf.d, -Wish.d]
  refine ⟨fun ρ W' => PlanM p pl PT s ts W' ∧ ρ = [some (.scr ns), some (.ref p), some s.t, some (s.o C), some (.ref pl), some x.d, a6, a7, some (.lst (S.map State.d)), some (dueD (firstBar s (begin_ s) ts 0)), some (.lst (ts.map Step.d)), none, none, none, none, none, none, none, none, none], ?_, ?_⟩
  · simp [hP.tab, -tdWordB_u, -Step.d, -State.d, -Shelf.d, -Wish.d]
    intro f o c hf hL
    have hPf := hP.upd (c := .fn o c QL) hf
    refine ⟨o, c, updW_same, td_lam0 C, ⟨(L0, td_lam0 C), by simp, hL, rfl⟩, ?_⟩
    have hv : ∀ W', PlanM p pl PT s ts W' → viewW W' (D.ref pl) = .lst (ts.map Step.d) := fun W' hW => viewW_ref _ hW.cell
    have okp : okD 64 (D.lst (ts.map Step.d)) = true := by simp [okL_steps, -Step.d]
    have eqp := eqD_refl 64 _ okp
    cases hfb : firstBar s (begin_ s) ts 0 with
    | none =>
      refine word_none (fun Qa Ea hQ => ?_) ?_
      · simp [td_lam0, -Step.d, -State.d]
        refine sp_played_s (.inl rfl) hs (by omega) hP.ok ?_
        rw [hfb]
        intro q hq
        simp [updW_same, delW_updW hq, -State.d]
        exact hQ _
      · rw [hfb] at *
        simp [dueD, hv _ hPf, okp, eqp, -Step.d]
        exact hPf
    | some z =>
      obtain ⟨w, m, k⟩ := z
      refine word_barred dis (w := w) (n := m) (k := k) (fun Qa Ea hE => ?_) ?_
      · simp [td_lam0, -Step.d, -State.d]
        refine sp_played_s (.inl rfl) hs (by omega) hP.ok ?_
        rw [hfb]
        exact hE
      · rw [hfb] at *
        simp [dueD, hv _ hPf, okp, eqp, -Step.d]
        exact hPf
  rintro _ W3 ⟨hP3, rfl⟩
  simp only [tsSeq_u]
  have hgS : (S.length : Int) - 1 = (gn : Int) := by
    have : S.length = gn + 1 := by show (states _ _ _).length = _; rw [states_len, List.length_take]; omega
    omega
  have ecut : DL.cutD (ts.map Step.d) none (some (gn : Int)) = (ts.take gn).map Step.d := by rw [cutD_to, List.map_take]
  simp [hP3.cell, sizeLine, hgS, ecut, -Step.d, -State.d, -Shelf.d, -Wish.d, -List.map_take]
  refine ⟨Mc C ns p pl PT s ts x S gn a6 a7, ?_, ?_⟩
  · simp [-Step.d, -State.d, -Shelf.d, -Wish.d, -List.map_take]
    refine sp_played_s (.inl rfl) hs (by rw [List.length_take]; omega) (fun t ht => hP.ok t (List.mem_of_mem_take ht)) ?_
    rw [free_firstBar hfr]
    intro q hq
    exact ⟨q, hP3.upd hq, ne_of_none_W hq hP3, updW_same, rfl⟩
  rintro _ W4 ⟨q, hP4, hqp, hq4, rfl⟩
  have hvq : ∀ W', W' q = some (.lst (S.map State.d)) → viewW W' (D.ref q) = .lst (S.map State.d) := fun W' hW => viewW_ref _ hW
  have okS : okD 64 (D.lst (S.map State.d)) = true := by rw [okD_lst64]; exact okL_st 61 S
  have eqS := eqD_refl 64 _ okS
  have hSok : ∀ y ∈ S, State.Ok s y := states_oks hs (begin_ok s) hfr
  refine ⟨Mc C ns p pl PT s ts x S gn a6 a7, ?_, ?_⟩
  · simp [hvq _ hq4, okS, eqS, -Step.d, -State.d, -Shelf.d, -Wish.d, -List.map_take]
    refine sp_shifts_s (.inr ⟨pl, rfl, hP4.cell⟩) hs (by omega) hP4.ok ?_
    simp [hP4.cell, -Step.d, -State.d, -Shelf.d, -Wish.d, -List.map_take]
    refine ⟨by simp [sizeLine]; omega, lcL_pure (α := Step) Step.d isShB Step.d _ hP4.cell ?_ [] ?_⟩
    · intro t ht Kt Kf hk
      cases t <;> simp [isShB] at hk ⊢ <;> exact hk
    · simp [shs_len, -Step.d, -State.d, -List.map_take]
      exact ⟨q, hP4, hqp, hq4, rfl⟩
  rintro _ W5 ⟨q5, hP5, hqp5, hq5, rfl⟩
  simp only [tsSeq_u]
  simp [-Step.d, -State.d, -Shelf.d, -Wish.d, -List.map_take]
  have hSl : S.length ≤ 30 := by omega
  refine ⟨by simp [sizeLine]; omega, lcL_pure (α := State) State.d (fun _ => true) (fun y => .bl (isEnd s y)) _ trivial ?_ [] ?_⟩
  · intro y hy Kt Kf hk
    simp [-State.d]
    exact sp_is_end_s hs (hSok y hy) (by simpa using hk)
  simp only [filter_tt, List.nil_append]
  let Md' : DEnv → Wd → Prop := fun ρ W => ∃ q e14, PlanM p pl PT s ts W ∧ (q ≠ p ∧ q ≠ pl ∧ q ≠ PT) ∧ W q = some (.lst (S.map State.d)) ∧
    ρ = [some (.scr ns), some (.ref p), some s.t, some (s.o C), some (.ref pl), some x.d, a6, a7, some (.lst (S.map State.d)), some (dueD (firstBar s (begin_ s) ts 0)), some (.lst (ts.map Step.d)), some (.lst ((ts.take gn).map Step.d)), some (.ref q), none, e14, none, none, none, none, none]
  refine ⟨Md', ?_, ?_⟩
  · simp [-Step.d, -State.d, -Shelf.d, -Wish.d, -List.map_take]
    refine ⟨by simp [sizeLine]; omega, lcL_pure (α := State) State.d (fun _ => true) (fun y => .bl (isEnd s y)) _ trivial ?_ [] ?_⟩
    · intro y hy Kt Kf hk
      have hyl := (hSok y hy).len
      simp at hk
      unfold isEnd at hk
      simp [Store.t, sizeLine, -Shelf.d, -Wish.d]
      split
      · rename_i e
        have e : y.done.length = s.wishes.length := by omega
        simpa [e] using hk
      · rename_i e
        have e : ¬ y.done.length = s.wishes.length := by omega
        simpa [e] using hk
    · have okE : okL 63 (List.map (fun y => D.bl (isEnd s y)) S) = true := okL_map _ fun a _ => by simp
      have eqE := eqDL_refl 63 _ okE
      simp only [filter_tt, List.nil_append]
      refine ⟨⟨okE, okE⟩, ?_⟩
      rw [if_pos eqE]
      exact ⟨q5, _, hP5, hqp5, hq5, rfl⟩
  rintro _ W6 ⟨q6, e14, hP6, hqp6, hq6, rfl⟩
  refine ⟨Me C ns p pl PT s ts x S gn a6 a7, ?_, ?_⟩
  · simp [hq6, ty_list, sizeLine, -Step.d, -State.d, -Shelf.d, -Wish.d, -List.map_take]
    refine ⟨by omega, ?_⟩
    exact ⟨_, _, ⟨hP6.row.upd hqp6.1, hP6.ne, by rw [updW_ne (Ne.symm hqp6.2.1)]; exact hP6.cell, hP6.ok, hP6.len, hP6.nt, hP6.np, by rw [updW_ne (Ne.symm hqp6.2.2)]; exact hP6.tab⟩, rfl⟩
  rintro _ W7 ⟨e12, e14, hP7, rfl⟩
  simp only [tsSeq_u]
  simp [-Step.d, -State.d, -Shelf.d, -Wish.d, -List.map_take]
  refine ⟨p, s, rfl, hP7.row, hs, fun r W8 hrb hrl e8 => ?_⟩
  have hP8 := hP7.on e8
  refine ⟨fun ρ W => ∃ j : Nat, j ≤ ts.length ∧ Mf C ns p pl PT s ts x S gn a6 a7 e12 e14 r j none none ρ W, ?_, ?_⟩
  · simp [hP8.cell, hP8.row, sizeLine, -Step.d, -State.d, -Shelf.d, -Wish.d, -RStep.d, -List.map_take]
    intro i W9 hi0 hi1 e9
    exact ⟨i.toNat, by omega, hP8.on e9, by rw [show ((i.toNat : Nat) : Int) = i by omega]⟩
  rintro _ W9 ⟨j, hj, hP9, rfl⟩
  let G1 : Wd → Addr → Prop := fun W f => ∃ o c, W f = some (.fn o c QL) ∧ L1 o c
  let G2 : Wd → Addr → Prop := fun W f => ∃ o c, W f = some (.fn o c QL) ∧ L2 o c
  let G3 : Wd → Addr → Prop := fun W f => ∃ o c, W f = some (.fn o c QL) ∧ L3 o c
  refine ⟨fun ρ W => ∃ u f1 : Addr, W u = some (.lst [.ref f1]) ∧ G1 W f1 ∧ Mf C ns p pl PT s ts x S gn a6 a7 e12 e14 r j (some (.ref u)) none ρ W, ?_, ?_⟩
  · simp [hP9.tab, sizeLine, -Step.d, -State.d, -Shelf.d, -Wish.d, -RStep.d, -List.map_take]
    intro f1 o c hf hL u hu
    have n1 : f1 ≠ u := ne_of_W updW_same hu
    exact ⟨u, f1, updW_same, ⟨o, c, by rw [updW_ne n1, updW_same], hL⟩, (hP9.upd hf).upd hu, rfl⟩
  rintro _ W10 ⟨u, f1, hu1, ⟨o1, c1, hf1, hL1⟩, hP10, rfl⟩
  have hup : u ≠ p := fun e => by subst e; obtain ⟨_, _, _, _, z⟩ := hP10.row; rw [hu1] at z; cases z
  have hul : u ≠ pl := fun e => by subst e; have z := hP10.cell; rw [hu1] at z; cases hts : ts with
    | nil => rw [hts] at z; cases z
    | cons t l => rw [hts] at z; cases t <;> cases z
  have huT : u ≠ PT := fun e => by subst e; rw [hP10.tab] at hu1; cases hu1
  have put : ∀ {W : Wd} (c : Cell), PlanM p pl PT s ts W → PlanM p pl PT s ts (updW W u c) := fun c h => ⟨h.row.upd hup, h.ne, by rw [updW_ne (Ne.symm hul)]; exact h.cell, h.ok, h.len, h.nt, h.np, by rw [updW_ne (Ne.symm huT)]; exact h.tab⟩
  have nf1 : f1 ≠ u := fun e => by subst e; rw [hu1] at hf1; cases hf1
  refine ⟨fun ρ W => ∃ f2 : Addr, W u = some (.lst [.ref f1, .ref f2]) ∧ G1 W f1 ∧ G2 W f2 ∧ Mf C ns p pl PT s ts x S gn a6 a7 e12 e14 r j (some (.ref u)) none ρ W, ?_, ?_⟩
  · simp [hP10.tab, sizeLine, -Step.d, -State.d, -Shelf.d, -Wish.d, -RStep.d, -List.map_take]
    refine ⟨by rw [show ty_append = ty_list from rfl, ty_list_ref _ hu1]; trivial, fun f2 o2 c2 hf2 hL2 => ?_⟩
    have n2 : u ≠ f2 := ne_of_W hu1 hf2
    have n12 : f1 ≠ f2 := ne_of_W hf1 hf2
    rw [updW_ne n2, hu1]
    exact ⟨by simp, f2, updW_same, ⟨o1, c1, by rw [updW_ne nf1, updW_ne n12]; exact hf1, hL1⟩, ⟨o2, c2, by rw [updW_ne (Ne.symm n2), updW_same], hL2⟩, put _ (hP10.upd hf2), rfl⟩
  clear hf1 hL1
  rintro _ W11 ⟨f2, hu2, ⟨o1, c1, hf1, hL1⟩, ⟨o2, c2, hf2, hL2⟩, hP11, rfl⟩
  have nf2 : f2 ≠ u := fun e => by subst e; rw [hu2] at hf2; cases hf2
  refine ⟨fun ρ W => ∃ f3 : Addr, W u = some (.lst [.ref f1, .ref f2, .ref f3]) ∧ G1 W f1 ∧ G2 W f2 ∧ G3 W f3 ∧ Mf C ns p pl PT s ts x S gn a6 a7 e12 e14 r j (some (.ref u)) none ρ W, ?_, ?_⟩
  · simp [hP11.tab, sizeLine, -Step.d, -State.d, -Shelf.d, -Wish.d, -RStep.d, -List.map_take]
    refine ⟨by rw [show ty_append = ty_list from rfl, ty_list_ref _ hu2]; trivial, fun f3 o3 c3 hf3 hL3 => ?_⟩
    have n3 : u ≠ f3 := ne_of_W hu2 hf3
    have n13 : f1 ≠ f3 := ne_of_W hf1 hf3
    have n23 : f2 ≠ f3 := ne_of_W hf2 hf3
    rw [updW_ne n3, hu2]
    exact ⟨by simp, f3, updW_same, ⟨o1, c1, by rw [updW_ne nf1, updW_ne n13]; exact hf1, hL1⟩, ⟨o2, c2, by rw [updW_ne nf2, updW_ne n23]; exact hf2, hL2⟩, ⟨o3, c3, by rw [updW_ne (Ne.symm n3), updW_same], hL3⟩, put _ (hP11.upd hf3), rfl⟩
  clear hf1 hL1 hf2 hL2
  rintro _ W12 ⟨f3, hu3, ⟨o1, c1, hf1, hL1⟩, ⟨o2, c2, hf2, hL2⟩, ⟨o3, c3, hf3, hL3⟩, hP12, rfl⟩
  have cut1 : DL.cutD (ts.map Step.d) none (some (j : Int)) = (ts.take j).map Step.d := by rw [cutD_to, List.map_take]
  have cut2 : DL.cutD (ts.map Step.d) (some (j : Int)) none = (ts.drop j).map Step.d := by rw [cutD_frm, List.map_drop]
  have badL : (ts.take j).map Step.d ++ r.d :: (ts.drop j).map Step.d = ((ts.take j).map rOf ++ r :: (ts.drop j).map rOf).map RStep.d := by rw [List.map_append, List.map_cons, rOf_ds, rOf_ds]
  have badE : ∃ z ∈ (ts.take j).map rOf ++ r :: (ts.drop j).map rOf, rB s z = false := ⟨r, by simp, hrb⟩
  have badX : ∀ z ∈ (ts.take j).map rOf ++ r :: (ts.drop j).map rOf, z.xs.length ≤ 60 := fun z hz => by
    rcases List.mem_append.mp hz with q | q
    · obtain ⟨t, _, rfl⟩ := List.mem_map.mp q; exact rOf_short t
    · rcases List.mem_cons.mp q with rfl | q
      · exact hrl
      · obtain ⟨t, _, rfl⟩ := List.mem_map.mp q; exact rOf_short t
  have badN : ((ts.take j).map rOf ++ r :: (ts.drop j).map rOf).length ≤ 100000 := by
    rw [List.length_append, List.length_cons, List.length_map, List.length_map, List.length_take, List.length_drop]; omega
  have okS : okD 64 (D.lst (S.map State.d)) = true := by rw [okD_lst64]; exact okL_st 61 S
  have eqS := eqD_refl 64 _ okS
  simp [hu3, lcL, lcLX, asgT, ttWord, -tdWordB_u, -Step.d, -State.d, -Shelf.d, -Wish.d, -RStep.d, -List.map_take, -List.map_drop]
  refine ⟨by simp [sizeLine], o1, c1, hf1, td_lam1 C, ⟨(L1, td_lam1 C), by simp, hL1, rfl⟩, ?_⟩
  refine word_bad dis (fun Qa Ea hE => ?_) ?_
  · simp [td_lam1, hP12.cell, cut1, cut2, sizeLine, -Step.d, -State.d, -RStep.d, -List.map_take, -List.map_drop]
    refine ⟨by omega, by omega, ?_⟩
    rw [badL]
    exact ⟨s, _, _, rfl, .inl rfl, hs, badN, badX, fun _ => hE, fun us ho e => (no_good badE ho e).elim⟩
  simp [-tdWordB_u, hu3, -Step.d, -State.d, -RStep.d, -List.map_take, -List.map_drop]
  refine ⟨o2, c2, hf2, td_lam2 C, ⟨(L2, td_lam2 C), by simp, hL2, rfl⟩, ?_⟩
  refine word_bad dis (fun Qa Ea hE => ?_) ?_
  · simp [td_lam2, hP12.cell, cut1, cut2, sizeLine, -Step.d, -State.d, -RStep.d, -List.map_take, -List.map_drop]
    refine ⟨by omega, by omega, ?_⟩
    rw [badL]
    exact ⟨s, _, _, rfl, .inl rfl, hs, badN, badX, fun _ => hE, fun us ho e => (no_good badE ho e).elim⟩
  simp [-tdWordB_u, hu3, -Step.d, -State.d, -RStep.d, -List.map_take, -List.map_drop]
  refine ⟨o3, c3, hf3, td_lam3 C, ⟨(L3, td_lam3 C), by simp, hL3, rfl⟩, ?_⟩
  refine word_bad dis (fun Qa Ea hE => ?_) ?_
  · simp [td_lam3, -Step.d, -State.d, -RStep.d]
    exact ⟨s, x, r, rfl, hs, hx, hrl, fun _ => hE, fun t ht e => by subst e; rw [rB_of ht] at hrb; cases hrb⟩
  simp [-tdWordB_u, hu3, sizeLine, -Step.d, -State.d, -RStep.d, -List.map_take, -List.map_drop]
  refine sp_played_s (.inl rfl) hs (by rw [List.length_take]; omega) (fun t ht => hP.ok t (List.mem_of_mem_take ht)) ?_
  rw [free_firstBar hfr]
  intro z hz
  have okL3 : okL 63 (S.map State.d) = true := okL_st 61 S
  refine ⟨z, rfl, S.map State.d, updW_same, ⟨okL3, okL3⟩, ?_⟩
  rw [eqDL_refl 63 _ okL3]
  exact h _
theorem law_in (C : CC) (PT : Addr) (ns : List Int) : sp_law C PT [.scr ns] (fun b => if b = PT then some (.tab QL) else none) (fun d _ => d = .bl true) (fun _ _ _ => False) := ⟨ns, rfl, if_pos rfl, fun _ => rfl⟩
end AI.X

namespace AI.X
open PySem PySem.Spec PyProof.Rows L2 DL
def top (i : Nat) : Stmt := PySem.Challenge.pw_aisleshift_k07_plans_played.main.body.getD i (.Pass ⟨0, 0, 0, 0⟩)
structure Txt (w : World) (K : PySem.W.Frag) (mg : Str → Option Value) (C : CC) : Prop where
  b_ValueError : mg "ValueError" = none
  b_int : mg "int" = none
  b_isinstance : mg "isinstance" = none
  b_len : mg "len" = none
  b_list : mg "list" = none
  b_max : mg "max" = none
  b_min : mg "min" = none
  b_range : mg "range" = none
  b_set : mg "set" = none
  b_sorted : mg "sorted" = none
  b_sum : mg "sum" = none
  b_tuple : mg "tuple" = none
  g_KINDS : GlobD K mg "KINDS" (.tup [(.str "fetch"), (.str "bring")])
  g_MOST_KEEP : GlobD K mg "MOST_KEEP" (.int 3)
  g_MOST_ROOM : GlobD K mg "MOST_ROOM" (.int 9)
  g_MOST_SHELVES : GlobD K mg "MOST_SHELVES" (.int 5)
  g_MOST_WISHES : GlobD K mg "MOST_WISHES" (.int 5)
  g_SIDES : GlobD K mg "SIDES" (.tup [(.str "left"), (.str "right"), (.str "any")])
  g_WAIT : GlobD K mg "WAIT" (.tup [(.str "wait")])
  f_aisle : FldOk K C.st "aisle"
  f_kept_shelves : FldOk K C.st "kept_shelves"
  f_kept_wishes : FldOk K C.st "kept_wishes"
  r_BadStep : Rd0 K mg "BadStep" C.badStep
  m_AisleError : mg "AisleError" = some (.ref C.ais)
  m_BadStep : mg "BadStep" = some (.ref C.badStep)
  m_BadStore : mg "BadStore" = some (.ref C.badStore)
  m_BadText : mg "BadText" = some (.ref C.badText)
  m_Barred : mg "Barred" = some (.ref C.barred)
  kn : ∀ c, C.known c → XT K C c ∧ PySem.W.exmOne K (.ref c) (.ref C.ais) = some true
  dis : C.Ok
section
variable {P : Program} {w : World} {K : PySem.W.Frag} {mg : Str → Option Value} {base : Heap} {C : CC}
abbrev s_Barred_init : Stmt := inClass (top 4) 0
theorem sc_Barred_init : FnScope ["self", "rule", "number", "at"] ["self", "rule", "number", "at"] (defScope s_Barred_init) := ⟨rfl, rfl, rfl, by decide +kernel, rfl, by decide +kernel, by decide +kernel⟩
theorem ok_Barred_init {f c CA : Addr} {fd : FuncData} (F : Fun K "__init__" "Barred.__init__" s_Barred_init f fd) (T0 : AisC K CA) (hm : mg "AisleError" = some (.ref CA)) (n1 : PySem.W.findIn K (.ref c) "rule" = some none) (n2 : PySem.W.findIn K (.ref c) "number" = some none) (n3 : PySem.W.findIn K (.ref c) "at" = some none) : FnOk P w K mg base (L2.CX P w) 1 f fd ["self", "rule", "number", "at"] (spEx K c ["rule", "number", "at"]) := by
  refine F.okX (k := 0) sc_Barred_init (fun vs H Q E h => ?_) (fun cdv A outer s H vs Q E hr h => ?_)
  · obtain ⟨a, ws, rfl, hl, _⟩ := h
    simp only [List.length_cons, hl, List.length_nil]
  · obtain ⟨a, ws, rfl, hl, T, ha, k⟩ := h
    match ws, hl with
    | [v1, v2, v3], _ =>
      refine ⟨_, pss_cons (ps_expr (pe_owninit rfl hm T0 (pa_cons (pv 0) (pa_cons (pv 1) pa_nil)))) (pss_cons (ps_ost (pv 0) (pv 1)) (pss_cons (ps_ost (pv 0) (pv 2)) (pss_one (ps_ost (pv 0) (pv 3))))), ?_⟩
      refine ⟨_, rfl, _, rfl, a, c, [v1], rfl, by simp, T, ha, ?_⟩
      refine ⟨_, rfl, _, rfl, a, c, rfl, T, n1, .inl ⟨ha, fun dx hdx ne => ?_⟩⟩
      refine ⟨_, rfl, _, rfl, a, c, rfl, T, n2, .inr ⟨dx, _, upd_same, (by rw [upd_ne ne, upd_same]), by simp, ?_⟩⟩
      refine ⟨_, rfl, _, rfl, a, c, rfl, T, n3, .inr ⟨dx, _, (by rw [upd_ne (Ne.symm ne), upd_same]), upd_same, by simp, ?_⟩⟩
      have z := k dx hdx ne
      have e : ∀ G, G = upd (upd H dx (exd dx (exF ["rule", "number", "at"] [v1, v2, v3]))) a (exo a c (some dx)) → Q V.non G := fun G h => h ▸ z
      refine e _ ?_
      funext b
      by_cases h1 : b = dx
      · have h2 : ¬ b = a := fun q => ne (h1 ▸ q)
        subst h1; simp [upd, ne, exF]
      · by_cases h2 : b = a
        · subst h2; simp [upd, h1]
        · simp [upd, h1, h2]
abbrev s_begin : Stmt := top 8
theorem sc_begin : FnScope ["store"] ["store"] (defScope s_begin) := ⟨rfl, rfl, rfl, by decide +kernel, rfl, by decide +kernel, by decide +kernel⟩
theorem len_begin (C : CC) : ∀ ds W Qd Ed, sp_begin C ds W Qd Ed → ds.length = ["store"].length := by
  intro ds W Qd Ed h; unfold sp_begin at h; (repeat (obtain ⟨_, h⟩ := h)); subst_vars; rfl
theorem ok_begin {f : Addr} {fd : FuncData} (F : Fun K "begin" "begin" s_begin f fd) (T : Txt w K mg C)  : FnOk P w K mg base (L2.CX P w) 1 f fd ["store"] (liftS K (sp_begin C)) :=
  fn_q (k := 0) F sc_begin rfl (len_begin C) (q_begin C) fun cdv A outer s H E c =>
    (dss_one (ds_ret (de_tup (da_cons (de_fld T.f_aisle (de_var 0)) (da_cons (de_tup da_nil) (da_cons (de_tup da_nil) (da_cons de_int da_nil)))))))
abbrev s_need_step : Stmt := top 9
theorem sc_need_step : FnScope ["store", "step", "most"] ["store", "step"] (defScope s_need_step) := ⟨rfl, rfl, rfl, by decide +kernel, rfl, by decide +kernel, by decide +kernel⟩
theorem len_need_step (C : CC) : ∀ ds W Qd Ed, sp_need_step C ds W Qd Ed → ds.length = ["store", "step"].length := by
  intro ds W Qd Ed h; unfold sp_need_step at h; (repeat (obtain ⟨_, h⟩ := h)); subst_vars; rfl
theorem ok_need_step {f : Addr} {fd : FuncData} (F : Fun K "need_step" "need_step" s_need_step f fd) (T : Txt w K mg C)  : FnOk P w K mg base (L2.CX P w) 1 f fd ["store", "step"] (liftS K (sp_need_step C)) :=
  fn_q (k := 0) F sc_need_step rfl (len_need_step C) (q_need_step C) fun cdv A outer s H E c =>
    (dss_cons (ds_if (dt_cmp (od_eq c.room.units) (de_var 1) (de_glob T.g_WAIT)) (dss_one ds_retN) dss_nil)
    (dss_cons (ds_if (dw_t (dw_or (dt_cmp (od_ne c.room.units) (de_callB cd_len T.b_len bt_len (da_cons (de_var 1) da_nil)) de_int) (dw_or1 (dt_cmp (od_notIn c.u65) (de_ix c (de_var 1) de_int) (de_tup (da_cons de_str (da_cons de_str (da_cons de_str (da_cons de_str da_nil))))))))) (dss_one (ds_raise0 c (takes_of rfl rfl rfl rfl) T.r_BadStep (da_cons de_str da_nil))) dss_nil)
    (dss_cons (ds_set 2 c (de_disp (dps_cons (de_tup (da_cons (de_un ud_neg de_int) (da_cons de_int da_nil))) (dps_cons (de_tup (da_cons de_int (da_cons de_int da_nil))) (dps_cons (de_tup (da_cons de_int (da_cons de_int da_nil))) (dps_cons (de_listRg c T.b_list T.b_range (de_callB cd_len T.b_len bt_len (da_cons (de_fld T.f_kept_wishes (de_var 0)) da_nil))) dps_nil))))))
    (dss_one (ds_if (dt_cmp (od_notIn c.u65) (de_ix c (de_var 1) de_int) (de_ix c (de_var 2) (de_ix c (de_var 1) de_int))) (dss_one (ds_raise0 c (takes_of rfl rfl rfl rfl) T.r_BadStep (da_cons de_str da_nil))) dss_nil)))))
abbrev s_bar_of_shift : Stmt := top 10
theorem sc_bar_of_shift : FnScope ["store", "state", "by", "aisle", "done", "inside", "kept", "shelf"] ["store", "state", "by"] (defScope s_bar_of_shift) := ⟨rfl, rfl, rfl, by decide +kernel, rfl, by decide +kernel, by decide +kernel⟩
theorem len_bar_of_shift (C : CC) : ∀ ds W Qd Ed, sp_bar_of_shift C ds W Qd Ed → ds.length = ["store", "state", "by"].length := by
  intro ds W Qd Ed h; unfold sp_bar_of_shift at h; (repeat (obtain ⟨_, h⟩ := h)); subst_vars; rfl
theorem ok_bar_of_shift {f : Addr} {fd : FuncData} (F : Fun K "bar_of_shift" "bar_of_shift" s_bar_of_shift f fd) (T : Txt w K mg C)  : FnOk P w K mg base (L2.CX P w) 1 f fd ["store", "state", "by"] (liftS K (sp_bar_of_shift C)) :=
  fn_q (k := 0) F sc_bar_of_shift rfl (len_bar_of_shift C) (q_bar_of_shift C) fun cdv A outer s H E c =>
    (dss_cons (ds_asg (de_var 1) (pgt_tup c.calm (pgts_cons (pgt_name 3 c.nd) (pgts_cons (pgt_name 4 c.nd) (pgts_cons (pgt_name 5 c.nd) (pgts_cons (pgt_name 6 c.nd) pgts_nil))))))
    (dss_cons (ds_set 7 c (de_if (dt_cmp od_gt (de_var 2) de_int) (de_var 3) (de_op od_sub (de_var 3) de_int)))
    (dss_cons (ds_if (dt_not (dt_chain od_le (od_lt c.room.units0) de_int (de_var 7) (de_callB cd_len T.b_len bt_len (da_cons (de_fld T.f_kept_shelves (de_var 0)) da_nil)))) (dss_one (ds_ret (de_tup (da_cons de_str (da_cons (de_var 3) da_nil))))) dss_nil)
    (dss_cons (ds_if (dt_cmp (od_eq c.room.units) (de_ix c (de_ix c (de_fld T.f_kept_shelves (de_var 0)) (de_var 7)) de_int) de_int) (dss_one (ds_ret (de_tup (da_cons de_str (da_cons (de_var 7) da_nil))))) dss_nil)
    (dss_cons (ds_if (dt_cmp (od_ne c.room.units) (de_var 5) (de_tup da_nil)) (dss_one (ds_ret (de_tup (da_cons de_str (da_cons (de_ix c (de_var 5) de_int) da_nil))))) dss_nil)
    (dss_cons (ds_if (dt_cmp od_gt (de_var 6) de_int) (dss_one (ds_ret (de_tup (da_cons de_str (da_cons (de_var 6) da_nil))))) dss_nil)
    (dss_one (ds_ret de_non))))))))
abbrev s_behind : Stmt := top 14
theorem sc_behind : FnScope ["store", "state", "step", "aisle", "done", "inside", "kept", "crew"] ["store", "state", "step"] (defScope s_behind) := ⟨rfl, rfl, rfl, by decide +kernel, rfl, by decide +kernel, by decide +kernel⟩
theorem len_behind (C : CC) : ∀ ds W Qd Ed, sp_behind C ds W Qd Ed → ds.length = ["store", "state", "step"].length := by
  intro ds W Qd Ed h; unfold sp_behind at h; (repeat (obtain ⟨_, h⟩ := h)); subst_vars; rfl
theorem ok_behind {f : Addr} {fd : FuncData} (F : Fun K "behind" "behind" s_behind f fd) (T : Txt w K mg C)  : FnOk P w K mg base (L2.CX P w) 1 f fd ["store", "state", "step"] (liftS K (sp_behind C)) :=
  fn_q (k := 0) F sc_behind rfl (len_behind C) (q_behind C) fun cdv A outer s H E c =>
    (dss_cons (ds_asg (de_var 1) (pgt_tup c.calm (pgts_cons (pgt_name 3 c.nd) (pgts_cons (pgt_name 4 c.nd) (pgts_cons (pgt_name 5 c.nd) (pgts_cons (pgt_name 6 c.nd) pgts_nil))))))
    (dss_cons (ds_set 6 c (de_callB (cd_max2 c.calm) T.b_max bt_max (da_cons de_int (da_cons (de_op od_sub (de_var 6) de_int) da_nil))))
    (dss_cons (ds_if (dt_cmp (od_eq c.room.units) (de_ix c (de_var 2) de_int) de_str) (dss_one (ds_set 3 c (de_op od_add (de_var 3) (de_ix c (de_var 2) de_int)))) (dss_one (ds_if (dt_cmp (od_eq c.room.units) (de_ix c (de_var 2) de_int) de_str) (dss_one (ds_set 5 c (de_callTy cd_tuple T.b_tuple bt_tuple (da_cons (de_callB cd_sortedI T.b_sorted bt_sorted (da_cons (de_op od_add (de_var 5) (de_tup (da_cons (de_ix c (de_var 2) de_int) da_nil))) da_nil)) da_nil)))) (dss_one (ds_if (dt_cmp (od_eq c.room.units) (de_ix c (de_var 2) de_int) de_str) (dss_one (ds_set 5 c (de_callTy cd_tuple T.b_tuple bt_tuple (da_cons (de_lc (own := [("crew", 7)]) c (di_seq (de_var 5)) (blk_ok sc_behind rfl rfl (by decide +kernel)) (fun _ _ _ _ _ => (pgt_name 7 (c.blk _ _ _ _ _).nd)) (fun _ _ _ _ _ => (dts_one (dt_cmp (od_ne (c.blk _ _ _ _ _).room.units) (de_var 7) (de_ix (c.blk _ _ _ _ _) (de_var 2) de_int)))) (fun _ _ _ _ _ => (de_var 7))) da_nil)))) (dss_one (ds_if (dt_cmp (od_eq c.room.units) (de_ix c (de_var 2) de_int) de_str) (dss_cons (ds_set 4 c (de_callTy cd_tuple T.b_tuple bt_tuple (da_cons (de_callB cd_sortedI T.b_sorted bt_sorted (da_cons (de_op od_add (de_var 4) (de_tup (da_cons (de_ix c (de_var 2) de_int) da_nil))) da_nil)) da_nil)))
    (dss_one (ds_set 6 c (de_callB (cd_max2 c.calm) T.b_max bt_max (da_cons (de_var 6) (da_cons (de_ix c (de_ix c (de_fld T.f_kept_wishes (de_var 0)) (de_ix c (de_var 2) de_int)) de_int) da_nil)))))) dss_nil)))))))
    (dss_one (ds_ret (de_tup (da_cons (de_var 3) (da_cons (de_var 4) (da_cons (de_var 5) (da_cons (de_var 6) da_nil))))))))))
abbrev s_shifts_of : Stmt := top 15
theorem sc_shifts_of : FnScope ["step"] ["step"] (defScope s_shifts_of) := ⟨rfl, rfl, rfl, by decide +kernel, rfl, by decide +kernel, by decide +kernel⟩
theorem len_shifts_of (C : CC) : ∀ ds W Qd Ed, sp_shifts_of C ds W Qd Ed → ds.length = ["step"].length := by
  intro ds W Qd Ed h; unfold sp_shifts_of at h; (repeat (obtain ⟨_, h⟩ := h)); subst_vars; rfl
theorem ok_shifts_of {f : Addr} {fd : FuncData} (F : Fun K "shifts_of" "shifts_of" s_shifts_of f fd) (T : Txt w K mg C)  : FnOk P w K mg base (L2.CX P w) 1 f fd ["step"] (liftS K (sp_shifts_of C)) :=
  fn_q (k := 0) F sc_shifts_of rfl (len_shifts_of C) (q_shifts_of C) fun cdv A outer s H E c =>
    (dss_one (ds_ret (de_callTy cd_int T.b_int bt_int (da_cons (de_cmp (od_eq c.room.units) (de_ix c (de_var 0) de_int) de_str) da_nil))))
abbrev s_is_end : Stmt := top 19
theorem sc_is_end : FnScope ["store", "state"] ["store", "state"] (defScope s_is_end) := ⟨rfl, rfl, rfl, by decide +kernel, rfl, by decide +kernel, by decide +kernel⟩
theorem len_is_end (C : CC) : ∀ ds W Qd Ed, sp_is_end C ds W Qd Ed → ds.length = ["store", "state"].length := by
  intro ds W Qd Ed h; unfold sp_is_end at h; (repeat (obtain ⟨_, h⟩ := h)); subst_vars; rfl
theorem ok_is_end {f : Addr} {fd : FuncData} (F : Fun K "is_end" "is_end" s_is_end f fd) (T : Txt w K mg C)  : FnOk P w K mg base (L2.CX P w) 1 f fd ["store", "state"] (liftS K (sp_is_end C)) :=
  fn_q (k := 0) F sc_is_end rfl (len_is_end C) (q_is_end C) fun cdv A outer s H E c =>
    (dss_one (ds_ret (de_and (de_cmp (od_eq c.room.units) (de_callB cd_len T.b_len bt_len (da_cons (de_ix c (de_var 1) de_int) da_nil)) (de_callB cd_len T.b_len bt_len (da_cons (de_fld T.f_kept_wishes (de_var 0)) da_nil))) (de_one (de_cmp (od_eq c.room.units) (de_ix c (de_var 1) de_int) (de_tup da_nil))))))
abbrev s_must : Stmt := top 27
theorem sc_must : FnScope ["good", "word", "number"] ["good", "word", "number"] (defScope s_must) := ⟨rfl, rfl, rfl, by decide +kernel, rfl, by decide +kernel, by decide +kernel⟩
theorem len_must (C : CC) : ∀ ds W Qd Ed, sp_must C ds W Qd Ed → ds.length = ["good", "word", "number"].length := by
  intro ds W Qd Ed h; unfold sp_must at h; (repeat (obtain ⟨_, h⟩ := h)); subst_vars; rfl
theorem ok_must {f : Addr} {fd : FuncData} (F : Fun K "must" "must" s_must f fd) (T : Txt w K mg C)  : FnOk P w K mg base (L2.CX P w) 1 f fd ["good", "word", "number"] (liftS K (sp_must C)) :=
  fn_q (k := 0) F sc_must rfl (len_must C) (q_must C) fun cdv A outer s H E c =>
    (dss_one (ds_if (dt_not (dt_val (de_var 0))) (dss_one ds_never) dss_nil))
abbrev s_is_shelf : Stmt := top 28
theorem sc_is_shelf : FnScope ["shelf", "room", "has", "sticks"] ["shelf"] (defScope s_is_shelf) := ⟨rfl, rfl, rfl, by decide +kernel, rfl, by decide +kernel, by decide +kernel⟩
theorem len_is_shelf (C : CC) : ∀ ds W Qd Ed, sp_is_shelf C ds W Qd Ed → ds.length = ["shelf"].length := by
  intro ds W Qd Ed h; unfold sp_is_shelf at h; (repeat (obtain ⟨_, h⟩ := h)); subst_vars; rfl
theorem ok_is_shelf {f : Addr} {fd : FuncData} (F : Fun K "is_shelf" "is_shelf" s_is_shelf f fd) (T : Txt w K mg C)  : FnOk P w K mg base (L2.CX P w) 1 f fd ["shelf"] (liftS K (sp_is_shelf C)) :=
  fn_q (k := 0) F sc_is_shelf rfl (len_is_shelf C) (q_is_shelf C) fun cdv A outer s H E c =>
    (dss_cons (ds_asg (de_var 0) (pgt_tup c.calm (pgts_cons (pgt_name 1 c.nd) (pgts_cons (pgt_name 2 c.nd) (pgts_cons (pgt_name 3 c.nd) pgts_nil)))))
    (dss_one (ds_ret (de_and (de_chain3 od_le od_le od_le de_int (de_var 2) (de_var 1) (de_glob T.g_MOST_ROOM)) (de_one (de_cmp (od_in c.u65) (de_var 3) (de_tup (da_cons de_int (da_cons de_int da_nil)))))))))
abbrev s_is_wish : Stmt := top 29
theorem sc_is_wish : FnScope ["wish", "many", "shelves", "kind", "shelf", "side", "crew", "keep", "after", "one"] ["wish", "many", "shelves"] (defScope s_is_wish) := ⟨rfl, rfl, rfl, by decide +kernel, rfl, by decide +kernel, by decide +kernel⟩
theorem len_is_wish (C : CC) : ∀ ds W Qd Ed, sp_is_wish C ds W Qd Ed → ds.length = ["wish", "many", "shelves"].length := by
  intro ds W Qd Ed h; unfold sp_is_wish at h; (repeat (obtain ⟨_, h⟩ := h)); subst_vars; rfl
theorem ok_is_wish {f : Addr} {fd : FuncData} (F : Fun K "is_wish" "is_wish" s_is_wish f fd) (T : Txt w K mg C)  : FnOk P w K mg base (L2.CX P w) 1 f fd ["wish", "many", "shelves"] (liftS K (sp_is_wish C)) :=
  fn_q (k := 0) F sc_is_wish rfl (len_is_wish C) (q_is_wish C) fun cdv A outer s H E c =>
    (dss_cons (ds_asg (de_var 0) (pgt_tup c.calm (pgts_cons (pgt_name 3 c.nd) (pgts_cons (pgt_name 4 c.nd) (pgts_cons (pgt_name 5 c.nd) (pgts_cons (pgt_name 6 c.nd) (pgts_cons (pgt_name 7 c.nd) (pgts_cons (pgt_name 8 c.nd) pgts_nil))))))))
    (dss_cons (ds_if (dw_t (dw_or (dt_cmp (od_notIn c.u65) (de_var 3) (de_glob T.g_KINDS)) (dw_or (dt_cmp (od_notIn c.u65) (de_var 5) (de_glob T.g_SIDES)) (dw_or1 (dt_not (dt_chain od_le (od_lt c.room.units0) de_int (de_var 4) (de_var 2))))))) (dss_one (ds_ret de_bl)) dss_nil)
    (dss_cons (ds_if (dw_t (dw_or (dt_cmp (od_notIn c.u65) (de_var 6) (de_tup (da_cons de_int (da_cons de_int da_nil)))) (dw_or1 (dt_not (dt_chain od_le od_le de_int (de_var 7) (de_glob T.g_MOST_KEEP)))))) (dss_one (ds_ret de_bl)) dss_nil)
    (dss_one (ds_ret (de_and (de_cmp (od_eq c.room.units) (de_callTy cd_list T.b_list bt_list (da_cons (de_var 8) da_nil)) (de_sortedSet c.calm T.b_sorted T.b_set (de_var 8))) (de_one (de_cmp (od_eq c.room.units) (de_lc (own := [("one", 9)]) c (di_seq (de_var 8)) (blk_ok sc_is_wish rfl rfl (by decide +kernel)) (fun _ _ _ _ _ => (pgt_name 9 (c.blk _ _ _ _ _).nd)) (fun _ _ _ _ _ => (dts_one (dt_not (dt_chain od_le (od_lt (c.blk _ _ _ _ _).room.units0) de_int (de_var 9) (de_var 1))))) (fun _ _ _ _ _ => (de_var 9))) (de_lst da_nil)))))))))
abbrev s_Store_goods : Stmt := inClass (top 30) 3
theorem sc_Store_goods : FnScope ["self", "shelf", "done", "many", "number"] ["self", "shelf", "done"] (defScope s_Store_goods) := ⟨rfl, rfl, rfl, by decide +kernel, rfl, by decide +kernel, by decide +kernel⟩
theorem len_Store_goods (C : CC) : ∀ ds W Qd Ed, sp_Store_goods C ds W Qd Ed → ds.length = ["self", "shelf", "done"].length := by
  intro ds W Qd Ed h; unfold sp_Store_goods at h; (repeat (obtain ⟨_, h⟩ := h)); subst_vars; rfl
theorem ok_Store_goods {f : Addr} {fd : FuncData} (F : Fun K "goods" "Store.goods" s_Store_goods f fd) (T : Txt w K mg C)  : FnOk P w K mg base (L2.CX P w) 1 f fd ["self", "shelf", "done"] (liftS K (sp_Store_goods C)) :=
  fn_q (k := 0) F sc_Store_goods rfl (len_Store_goods C) (q_Store_goods C) fun cdv A outer s H E c =>
    (dss_cons (ds_set 3 c (de_ix c (de_ix c (de_fld T.f_kept_shelves (de_var 0)) (de_var 1)) de_int))
    (dss_cons (ds_for c (di_seq (de_var 2)) (pgt_name 4 c.nd) (dss_one (ds_if (dt_cmp (od_eq c.room.units) (de_ix c (de_ix c (de_fld T.f_kept_wishes (de_var 0)) (de_var 4)) de_int) (de_var 1)) (dss_one (ds_set 3 c (de_op od_add (de_var 3) (de_ix c (de_lst (da_cons (de_un ud_neg de_int) (da_cons de_int da_nil))) (de_callTy cd_int T.b_int bt_int (da_cons (de_cmp (od_eq c.room.units) (de_ix c (de_ix c (de_fld T.f_kept_wishes (de_var 0)) (de_var 4)) de_int) de_str) da_nil)))))) dss_nil)))
    (dss_one (ds_ret (de_var 3)))))
abbrev s_Store_reaches : Stmt := inClass (top 30) 4
theorem sc_Store_reaches : FnScope ["self", "number", "aisle", "shelf", "side"] ["self", "number", "aisle"] (defScope s_Store_reaches) := ⟨rfl, rfl, rfl, by decide +kernel, rfl, by decide +kernel, by decide +kernel⟩
theorem len_Store_reaches (C : CC) : ∀ ds W Qd Ed, sp_Store_reaches C ds W Qd Ed → ds.length = ["self", "number", "aisle"].length := by
  intro ds W Qd Ed h; unfold sp_Store_reaches at h; (repeat (obtain ⟨_, h⟩ := h)); subst_vars; rfl
theorem ok_Store_reaches {f : Addr} {fd : FuncData} (F : Fun K "reaches" "Store.reaches" s_Store_reaches f fd) (T : Txt w K mg C)  : FnOk P w K mg base (L2.CX P w) 1 f fd ["self", "number", "aisle"] (liftS K (sp_Store_reaches C)) :=
  fn_q (k := 0) F sc_Store_reaches rfl (len_Store_reaches C) (q_Store_reaches C) fun cdv A outer s H E c =>
    (dss_cons (ds_set 3 c (de_ix c (de_ix c (de_fld T.f_kept_wishes (de_var 0)) (de_var 1)) de_int))
    (dss_cons (ds_set 4 c (de_ix c (de_ix c (de_fld T.f_kept_wishes (de_var 0)) (de_var 1)) de_int))
    (dss_one (ds_ret (de_or (de_and (de_cmp (od_eq c.room.units) (de_var 2) (de_var 3)) (de_one (de_cmp (od_ne c.room.units) (de_var 4) de_str))) (de_one (de_and (de_cmp (od_eq c.room.units) (de_var 2) (de_op od_add (de_var 3) de_int)) (de_one (de_cmp (od_ne c.room.units) (de_var 4) de_str)))))))))
abbrev s_l_taken : Stmt := top 32
theorem sc_l_taken : FnScope ["_law_row", "_law_many", "_law_cell"] ["_law_row", "_law_many"] (defScope s_l_taken) := ⟨rfl, rfl, rfl, by decide +kernel, rfl, by decide +kernel, by decide +kernel⟩
theorem len_l_taken (C : CC) : ∀ ds W Qd Ed, sp_l_taken C ds W Qd Ed → ds.length = ["_law_row", "_law_many"].length := by
  intro ds W Qd Ed h; unfold sp_l_taken at h; (repeat (obtain ⟨_, h⟩ := h)); subst_vars; rfl
theorem ok_l_taken {f : Addr} {fd : FuncData} (F : Fun K "_law_taken" "_law_taken" s_l_taken f fd) (T : Txt w K mg C)  : FnOk P w K mg base (L2.CX P w) 1 f fd ["_law_row", "_law_many"] (liftS K (sp_l_taken C)) :=
  fn_q (k := 0) F sc_l_taken rfl (len_l_taken C) (q_l_taken C) fun cdv A outer s H E c =>
    (dss_cons (ds_sub (de_var 0) de_int (de_op od_add (de_ix c (de_var 0) de_int) de_int))
    (dss_cons (ds_if (dt_cmp od_gt (de_ix c (de_var 0) de_int) (de_callB cd_len T.b_len bt_len (da_cons (de_ix c (de_var 0) de_int) da_nil))) (dss_cons (ds_sub (de_var 0) de_int (de_op od_mod (de_op od_add (de_op od_mul (de_ix c (de_var 0) de_int) de_int) de_int) de_int))
    (dss_one (ds_ret (de_op od_mod (de_op od_fdiv (de_ix c (de_var 0) de_int) de_int) (de_var 1))))) dss_nil)
    (dss_cons (ds_set 2 c (de_ix c (de_ix c (de_var 0) de_int) (de_op od_sub (de_ix c (de_var 0) de_int) de_int)))
    (dss_cons (ds_sub (de_var 0) de_int (de_op od_mod (de_op od_add (de_op od_add (de_op od_mul (de_ix c (de_var 0) de_int) de_int) (de_var 2)) de_int) de_int))
    (dss_one (ds_ret (de_op od_mod (de_var 2) (de_var 1))))))))
abbrev s_l_goods : Stmt := top 36
theorem sc_l_goods : FnScope ["_law_store_here", "_law_shelf", "_law_done", "_law_fetched", "_law_k", "_law_brought"] ["_law_store_here", "_law_shelf", "_law_done"] (defScope s_l_goods) := ⟨rfl, rfl, rfl, by decide +kernel, rfl, by decide +kernel, by decide +kernel⟩
theorem len_l_goods (C : CC) : ∀ ds W Qd Ed, sp_l_goods C ds W Qd Ed → ds.length = ["_law_store_here", "_law_shelf", "_law_done"].length := by
  intro ds W Qd Ed h; unfold sp_l_goods at h; (repeat (obtain ⟨_, h⟩ := h)); subst_vars; rfl
theorem ok_l_goods {f : Addr} {fd : FuncData} (F : Fun K "_law_goods" "_law_goods" s_l_goods f fd) (T : Txt w K mg C)  : FnOk P w K mg base (L2.CX P w) 1 f fd ["_law_store_here", "_law_shelf", "_law_done"] (liftS K (sp_l_goods C)) :=
  fn_q (k := 0) F sc_l_goods rfl (len_l_goods C) (q_l_goods C) fun cdv A outer s H E c =>
    (dss_cons (ds_setLc 3 (own := [("_law_k", 4)]) c (di_seq (de_var 2)) (blk_ok sc_l_goods rfl rfl (by decide +kernel)) (fun _ _ _ _ _ => (pgt_name 4 (c.blk _ _ _ _ _).nd)) (fun _ _ _ _ _ => (dts_one (dw_t (dw_and (dt_cmp (od_eq (c.blk _ _ _ _ _).room.units) (de_ix (c.blk _ _ _ _ _) (de_ix (c.blk _ _ _ _ _) (de_ix (c.blk _ _ _ _ _) (de_var 0) de_int) (de_var 4)) de_int) (de_var 1)) (dw_and1 (dt_cmp (od_eq (c.blk _ _ _ _ _).room.units) (de_ix (c.blk _ _ _ _ _) (de_ix (c.blk _ _ _ _ _) (de_ix (c.blk _ _ _ _ _) (de_var 0) de_int) (de_var 4)) de_int) de_str)))))) (fun _ _ _ _ _ => (de_var 4)))
    (dss_cons (ds_setLc 5 (own := [("_law_k", 4)]) c (di_seq (de_var 2)) (blk_ok sc_l_goods rfl rfl (by decide +kernel)) (fun _ _ _ _ _ => (pgt_name 4 (c.blk _ _ _ _ _).nd)) (fun _ _ _ _ _ => (dts_one (dw_t (dw_and (dt_cmp (od_eq (c.blk _ _ _ _ _).room.units) (de_ix (c.blk _ _ _ _ _) (de_ix (c.blk _ _ _ _ _) (de_ix (c.blk _ _ _ _ _) (de_var 0) de_int) (de_var 4)) de_int) (de_var 1)) (dw_and1 (dt_cmp (od_eq (c.blk _ _ _ _ _).room.units) (de_ix (c.blk _ _ _ _ _) (de_ix (c.blk _ _ _ _ _) (de_ix (c.blk _ _ _ _ _) (de_var 0) de_int) (de_var 4)) de_int) de_str)))))) (fun _ _ _ _ _ => (de_var 4)))
    (dss_one (ds_ret (de_op od_add (de_op od_sub (de_ix c (de_ix c (de_ix c (de_var 0) de_int) (de_var 1)) de_int) (de_callB cd_len T.b_len bt_len (da_cons (de_var 3) da_nil))) (de_callB cd_len T.b_len bt_len (da_cons (de_var 5) da_nil)))))))
abbrev s_l_behind : Stmt := top 39
theorem sc_l_behind : FnScope ["_law_store_here", "_law_state", "_law_step", "_law_aisle", "_law_done", "_law_inside", "_law_kept", "_law_crew"] ["_law_store_here", "_law_state", "_law_step"] (defScope s_l_behind) := ⟨rfl, rfl, rfl, by decide +kernel, rfl, by decide +kernel, by decide +kernel⟩
theorem len_l_behind (C : CC) : ∀ ds W Qd Ed, sp_l_behind C ds W Qd Ed → ds.length = ["_law_store_here", "_law_state", "_law_step"].length := by
  intro ds W Qd Ed h; unfold sp_l_behind at h; (repeat (obtain ⟨_, h⟩ := h)); subst_vars; rfl
theorem ok_l_behind {f : Addr} {fd : FuncData} (F : Fun K "_law_behind" "_law_behind" s_l_behind f fd) (T : Txt w K mg C)  : FnOk P w K mg base (L2.CX P w) 1 f fd ["_law_store_here", "_law_state", "_law_step"] (liftS K (sp_l_behind C)) :=
  fn_q (k := 0) F sc_l_behind rfl (len_l_behind C) (q_l_behind C) fun cdv A outer s H E c =>
    (dss_cons (ds_asg (de_var 1) (pgt_tup c.calm (pgts_cons (pgt_name 3 c.nd) (pgts_cons (pgt_name 4 c.nd) (pgts_cons (pgt_name 5 c.nd) (pgts_cons (pgt_name 6 c.nd) pgts_nil))))))
    (dss_cons (ds_set 6 c (de_ix c (de_lst (da_cons de_int (da_cons de_int (da_cons de_int (da_cons de_int da_nil))))) (de_var 6)))
    (dss_cons (ds_if (dt_cmp (od_eq c.room.units) (de_ix c (de_var 2) de_int) de_str) (dss_one (ds_ret (de_tup (da_cons (de_op od_add (de_var 3) (de_ix c (de_var 2) de_int)) (da_cons (de_var 4) (da_cons (de_var 5) (da_cons (de_var 6) da_nil))))))) dss_nil)
    (dss_cons (ds_if (dt_cmp (od_eq c.room.units) (de_ix c (de_var 2) de_int) de_str) (dss_one (ds_ret (de_tup (da_cons (de_var 3) (da_cons (de_var 4) (da_cons (de_callTy cd_tuple T.b_tuple bt_tuple (da_cons (de_callB cd_sortedI T.b_sorted bt_sorted (da_cons (de_op od_add (de_var 5) (de_tup (da_cons (de_ix c (de_var 2) de_int) da_nil))) da_nil)) da_nil)) (da_cons (de_var 6) da_nil))))))) dss_nil)
    (dss_cons (ds_if (dt_cmp (od_eq c.room.units) (de_ix c (de_var 2) de_int) de_str) (dss_one (ds_ret (de_tup (da_cons (de_var 3) (da_cons (de_var 4) (da_cons (de_callTy cd_tuple T.b_tuple bt_tuple (da_cons (de_lc (own := [("_law_crew", 7)]) c (di_seq (de_var 5)) (blk_ok sc_l_behind rfl rfl (by decide +kernel)) (fun _ _ _ _ _ => (pgt_name 7 (c.blk _ _ _ _ _).nd)) (fun _ _ _ _ _ => (dts_one (dt_cmp (od_ne (c.blk _ _ _ _ _).room.units) (de_var 7) (de_ix (c.blk _ _ _ _ _) (de_var 2) de_int)))) (fun _ _ _ _ _ => (de_var 7))) da_nil)) (da_cons (de_var 6) da_nil))))))) dss_nil)
    (dss_cons (ds_if (dt_cmp (od_eq c.room.units) (de_ix c (de_var 2) de_int) de_str) (dss_one (ds_ret (de_tup (da_cons (de_var 3) (da_cons (de_callTy cd_tuple T.b_tuple bt_tuple (da_cons (de_callB cd_sortedI T.b_sorted bt_sorted (da_cons (de_op od_add (de_var 4) (de_tup (da_cons (de_ix c (de_var 2) de_int) da_nil))) da_nil)) da_nil)) (da_cons (de_var 5) (da_cons (de_callB (cd_max2 c.calm) T.b_max bt_max (da_cons (de_var 6) (da_cons (de_ix c (de_ix c (de_ix c (de_var 0) de_int) (de_ix c (de_var 2) de_int)) de_int) da_nil))) da_nil))))))) dss_nil)
    (dss_one (ds_ret (de_tup (da_cons (de_var 3) (da_cons (de_var 4) (da_cons (de_var 5) (da_cons (de_var 6) da_nil)))))))))))))
abbrev s_l_every : Stmt := top 40
theorem sc_l_every : FnScope ["_law_store_here", "_law_some", "_law_number"] ["_law_store_here"] (defScope s_l_every) := ⟨rfl, rfl, rfl, by decide +kernel, rfl, by decide +kernel, by decide +kernel⟩
theorem len_l_every (C : CC) : ∀ ds W Qd Ed, sp_l_every C ds W Qd Ed → ds.length = ["_law_store_here"].length := by
  intro ds W Qd Ed h; unfold sp_l_every at h; (repeat (obtain ⟨_, h⟩ := h)); subst_vars; rfl
theorem ok_l_every {f : Addr} {fd : FuncData} (F : Fun K "_law_every" "_law_every" s_l_every f fd) (T : Txt w K mg C)  : FnOk P w K mg base (L2.CX P w) 1 f fd ["_law_store_here"] (liftS K (sp_l_every C)) :=
  fn_q (k := 0) F sc_l_every rfl (len_l_every C) (q_l_every C) fun cdv A outer s H E c =>
    (dss_cons (ds_set 1 c (de_lst (da_cons (de_tup (da_cons de_str da_nil)) (da_cons (de_tup (da_cons de_str (da_cons (de_un ud_neg de_int) da_nil))) (da_cons (de_tup (da_cons de_str (da_cons de_int da_nil))) (da_cons (de_tup (da_cons de_str (da_cons de_int da_nil))) (da_cons (de_tup (da_cons de_str (da_cons de_int da_nil))) (da_cons (de_tup (da_cons de_str (da_cons de_int da_nil))) (da_cons (de_tup (da_cons de_str (da_cons de_int da_nil))) da_nil)))))))))
    (dss_one (ds_ret (de_op od_add (de_var 1) (de_lc (own := [("_law_number", 2)]) c (di_range1 T.b_range (de_callB cd_len T.b_len bt_len (da_cons (de_ix c (de_var 0) de_int) da_nil))) (blk_ok sc_l_every rfl rfl (by decide +kernel)) (fun _ _ _ _ _ => (pgt_name 2 (c.blk _ _ _ _ _).nd)) (fun _ _ _ _ _ => dts_nil) (fun _ _ _ _ _ => (de_tup (da_cons de_str (da_cons (de_var 2) da_nil)))))))))
abbrev s_l_begin : Stmt := top 42
theorem sc_l_begin : FnScope ["_law_store_here"] ["_law_store_here"] (defScope s_l_begin) := ⟨rfl, rfl, rfl, by decide +kernel, rfl, by decide +kernel, by decide +kernel⟩
theorem len_l_begin (C : CC) : ∀ ds W Qd Ed, sp_l_begin C ds W Qd Ed → ds.length = ["_law_store_here"].length := by
  intro ds W Qd Ed h; unfold sp_l_begin at h; (repeat (obtain ⟨_, h⟩ := h)); subst_vars; rfl
theorem ok_l_begin {f : Addr} {fd : FuncData} (F : Fun K "_law_begin" "_law_begin" s_l_begin f fd) (T : Txt w K mg C)  : FnOk P w K mg base (L2.CX P w) 1 f fd ["_law_store_here"] (liftS K (sp_l_begin C)) :=
  fn_q (k := 0) F sc_l_begin rfl (len_l_begin C) (q_l_begin C) fun cdv A outer s H E c =>
    (dss_one (ds_ret (de_tup (da_cons (de_ix c (de_var 0) de_int) (da_cons (de_tup da_nil) (da_cons (de_tup da_nil) (da_cons de_int da_nil)))))))
abbrev s_l_word : Stmt := top 44
theorem sc_l_word : FnScope ["_law_work", "e"] ["_law_work"] (defScope s_l_word) := ⟨rfl, rfl, rfl, by decide +kernel, rfl, by decide +kernel, by decide +kernel⟩
theorem wd_l_word {g : Addr} {fd : FuncData} (F : Fun K "_law_word" "_law_word" s_l_word g fd) (T : Txt w K mg C) (hm : mg "_law_word" = some (.ref g)) (b : Binds K fd ["_law_work"] []) (k : Nat) : WordD P w K mg base C C.known C.ais k "_law_word" 1 2 (tsu_l_word C) (tre_l_word C) :=
  ⟨T.kn, g, fd, s_l_word, ["_law_work", "e"], "_law_work", "AisleError", "e", _, _, _, _, _, _, _, _, _, F, sc_l_word, b, hm, rfl, rfl, rfl, Or.inl rfl, ⟨by decide, by decide⟩, rfl, fun cdv A outer s H => ⟨rfl, ⟨rfl, by decide, .inl T.m_AisleError⟩, rfl, fun a oe cl d pn Tx hz hf =>
    (dss_cons (ds_if (dw_t (dw_or (dt_val (de_isXT 1 Tx hz hf T.b_isinstance (kls_cons (k := .bs) (pe_glob rfl T.m_BadStore rfl) (kls_cons (k := .bt) (pe_glob rfl T.m_BadText rfl) kls_nil)))) (dw_or1 (dt_not (dt_val (de_isX1 1 (k := .ve) Tx hz hf T.b_isinstance (pe_bltn rfl T.b_ValueError (v := .ty "ValueError") (u := .type "ValueError") (by decide +kernel) rfl))))))) (dss_one (ds_ret de_str)) dss_nil)
    (dss_cons (ds_if (dt_val (de_isX1 1 (k := .ba) Tx hz hf T.b_isinstance (pe_glob rfl T.m_Barred rfl))) (dss_one (ds_ret (de_if (dt_val (de_isX1 1 (k := .bp) Tx hz hf T.b_isinstance (pe_glob rfl T.m_BadStep rfl))) de_str (de_tup (da_cons (de_xf 1 Tx (Tx.nof "rule" (by decide)) hz hf) (da_cons (de_xf 1 Tx (Tx.nof "number" (by decide)) hz hf) (da_cons (de_xf 1 Tx (Tx.nof "at" (by decide)) hz hf) da_nil))))))) dss_nil)
    (dss_one (ds_ret de_str)))),
    fun c =>
    (dss_one (ds_ret de_non))⟩⟩
abbrev s_bar_of_wish : Stmt := top 11
theorem sc_bar_of_wish : FnScope ["store", "state", "number", "aisle", "done", "inside", "kept", "kind", "shelf", "side", "crew", "keep", "after", "one", "goods"] ["store", "state", "number"] (defScope s_bar_of_wish) := ⟨rfl, rfl, rfl, by decide +kernel, rfl, by decide +kernel, by decide +kernel⟩
theorem len_bar_of_wish (C : CC) : ∀ ds W Qd Ed, sp_bar_of_wish C ds W Qd Ed → ds.length = ["store", "state", "number"].length := by
  intro ds W Qd Ed h; unfold sp_bar_of_wish at h; (repeat (obtain ⟨_, h⟩ := h)); subst_vars; rfl
theorem ok_bar_of_wish {f : Addr} {fd : FuncData} (F : Fun K "bar_of_wish" "bar_of_wish" s_bar_of_wish f fd) (T : Txt w K mg C) (G_Store_goods : Md P w K mg base 1 C.st "goods" (sp_Store_goods C)) (G_Store_reaches : Md P w K mg base 1 C.st "reaches" (sp_Store_reaches C)) : FnOk P w K mg base (L2.CX P w) 2 f fd ["store", "state", "number"] (liftS K (sp_bar_of_wish C)) :=
  fn_q (k := 1) F sc_bar_of_wish rfl (len_bar_of_wish C) (q_bar_of_wish C) fun cdv A outer s H E c =>
    (dss_cons (ds_asg (de_var 1) (pgt_tup c.calm (pgts_cons (pgt_name 3 c.nd) (pgts_cons (pgt_name 4 c.nd) (pgts_cons (pgt_name 5 c.nd) (pgts_cons (pgt_name 6 c.nd) pgts_nil))))))
    (dss_cons (ds_asg (de_ix c (de_fld T.f_kept_wishes (de_var 0)) (de_var 2)) (pgt_tup c.calm (pgts_cons (pgt_name 7 c.nd) (pgts_cons (pgt_name 8 c.nd) (pgts_cons (pgt_name 9 c.nd) (pgts_cons (pgt_name 10 c.nd) (pgts_cons (pgt_name 11 c.nd) (pgts_cons (pgt_name 12 c.nd) pgts_nil))))))))
    (dss_cons (ds_if (dt_cmp (od_in c.u65) (de_var 2) (de_var 4)) (dss_one (ds_ret (de_tup (da_cons de_str (da_cons (de_var 2) da_nil))))) dss_nil)
    (dss_cons (ds_for c (di_seq (de_var 12)) (pgt_name 13 c.nd) (dss_one (ds_if (dt_cmp (od_notIn c.u65) (de_var 13) (de_var 4)) (dss_one (ds_ret (de_tup (da_cons de_str (da_cons (de_var 13) da_nil))))) dss_nil)))
    (dss_cons (ds_if (dt_cmp (od_notIn c.u65) (de_var 10) (de_var 5)) (dss_one (ds_ret (de_tup (da_cons de_str (da_cons (de_var 10) da_nil))))) dss_nil)
    (dss_cons (ds_if (dt_not (dt_val (de_meth c G_Store_reaches (de_var 0) (da_cons (de_var 2) (da_cons (de_var 3) da_nil))))) (dss_one (ds_ret (de_tup (da_cons de_str (da_cons (de_var 3) da_nil))))) dss_nil)
    (dss_cons (ds_set 14 c (de_meth c G_Store_goods (de_var 0) (da_cons (de_var 8) (da_cons (de_var 4) da_nil))))
    (dss_cons (ds_if (dw_t (dw_and (dt_cmp (od_eq c.room.units) (de_var 7) de_str) (dw_and1 (dt_cmp (od_lt c.room.units0) (de_var 14) de_int)))) (dss_one (ds_ret (de_tup (da_cons de_str (da_cons (de_var 8) da_nil))))) dss_nil)
    (dss_cons (ds_if (dw_t (dw_and (dt_cmp (od_eq c.room.units) (de_var 7) de_str) (dw_and1 (dt_cmp od_ge (de_var 14) (de_ix c (de_ix c (de_fld T.f_kept_shelves (de_var 0)) (de_var 8)) de_int))))) (dss_one (ds_ret (de_tup (da_cons de_str (da_cons (de_var 8) da_nil))))) dss_nil)
    (dss_one (ds_ret de_non)))))))))))
abbrev s_shifts : Stmt := top 18
theorem sc_shifts : FnScope ["store", "plan", "step"] ["store", "plan"] (defScope s_shifts) := ⟨rfl, rfl, rfl, by decide +kernel, rfl, by decide +kernel, by decide +kernel⟩
theorem len_shifts (C : CC) : ∀ ds W Qd Ed, sp_shifts C ds W Qd Ed → ds.length = ["store", "plan"].length := by
  intro ds W Qd Ed h; unfold sp_shifts at h; (repeat (obtain ⟨_, h⟩ := h)); subst_vars; rfl
theorem ok_shifts {f : Addr} {fd : FuncData} (F : Fun K "shifts" "shifts" s_shifts f fd) (T : Txt w K mg C) (G_need_step : Cd P w K mg base 1 "need_step" (sp_need_step C)) (G_shifts_of : Cd P w K mg base 1 "shifts_of" (sp_shifts_of C)) : FnOk P w K mg base (L2.CX P w) 2 f fd ["store", "plan"] (liftS K (sp_shifts C)) :=
  fn_q (k := 1) F sc_shifts rfl (len_shifts C) (q_shifts C) fun cdv A outer s H E c =>
    (dss_cons (ds_for c (di_seq (de_var 1)) (pgt_name 2 c.nd) (dss_one (ds_expr (de_call c G_need_step (da_cons (de_var 0) (da_cons (de_var 2) da_nil))))))
    (dss_one (ds_ret (de_callB (cd_sumI c.calm) T.b_sum bt_sum (da_cons (de_lc (own := [("step", 2)]) c (di_seq (de_var 1)) (blk_ok sc_shifts rfl rfl (by decide +kernel)) (fun _ _ _ _ _ => (pgt_name 2 (c.blk _ _ _ _ _).nd)) (fun _ _ _ _ _ => dts_nil) (fun _ _ _ _ _ => (de_call (c.blk _ _ _ _ _) G_shifts_of (da_cons (de_var 2) da_nil)))) da_nil)))))
abbrev s_Store_init : Stmt := inClass (top 30) 0
theorem sc_Store_init : FnScope ["self", "shelves", "aisle", "wishes", "number"] ["self", "shelves", "aisle", "wishes"] (defScope s_Store_init) := ⟨rfl, rfl, rfl, by decide +kernel, rfl, by decide +kernel, by decide +kernel⟩
theorem len_Store_init (C : CC) : ∀ ds W Qd Ed, sp_Store_init C ds W Qd Ed → ds.length = ["self", "shelves", "aisle", "wishes"].length := by
  intro ds W Qd Ed h; unfold sp_Store_init at h; (repeat (obtain ⟨_, h⟩ := h)); subst_vars; rfl
theorem ok_Store_init {f : Addr} {fd : FuncData} (F : Fun K "__init__" "Store.__init__" s_Store_init f fd) (T : Txt w K mg C) (G_is_shelf : Cd P w K mg base 1 "is_shelf" (sp_is_shelf C)) (G_is_wish : Cd P w K mg base 1 "is_wish" (sp_is_wish C)) (G_must : Cd P w K mg base 1 "must" (sp_must C)) : FnOk P w K mg base (L2.CX P w) 2 f fd ["self", "shelves", "aisle", "wishes"] (liftS K (sp_Store_init C)) :=
  fn_q (k := 1) F sc_Store_init rfl (len_Store_init C) (q_Store_init C) fun cdv A outer s H E c =>
    (dss_cons (ds_expr (de_call c G_must (da_cons (de_chain od_le od_le de_int (de_callB cd_len T.b_len bt_len (da_cons (de_var 1) da_nil)) (de_glob T.g_MOST_SHELVES)) (da_cons de_str (da_cons de_int da_nil)))))
    (dss_cons (ds_for c (di_range1 T.b_range (de_callB cd_len T.b_len bt_len (da_cons (de_var 1) da_nil))) (pgt_name 4 c.nd) (dss_one (ds_expr (de_call c G_must (da_cons (de_call c G_is_shelf (da_cons (de_ix c (de_var 1) (de_var 4)) da_nil)) (da_cons de_str (da_cons (de_var 4) da_nil)))))))
    (dss_cons (ds_expr (de_call c G_must (da_cons (de_chain od_le od_le de_int (de_var 2) (de_callB cd_len T.b_len bt_len (da_cons (de_var 1) da_nil))) (da_cons de_str (da_cons de_int da_nil)))))
    (dss_cons (ds_expr (de_call c G_must (da_cons (de_cmp od_le (de_callB cd_len T.b_len bt_len (da_cons (de_var 3) da_nil)) (de_glob T.g_MOST_WISHES)) (da_cons de_str (da_cons de_int da_nil)))))
    (dss_cons (ds_for c (di_range1 T.b_range (de_callB cd_len T.b_len bt_len (da_cons (de_var 3) da_nil))) (pgt_name 4 c.nd) (dss_one (ds_expr (de_call c G_must (da_cons (de_call c G_is_wish (da_cons (de_ix c (de_var 3) (de_var 4)) (da_cons (de_callB cd_len T.b_len bt_len (da_cons (de_var 3) da_nil)) (da_cons (de_callB cd_len T.b_len bt_len (da_cons (de_var 1) da_nil)) da_nil)))) (da_cons de_str (da_cons (de_var 4) da_nil)))))))
    (dss_cons (ds_fld T.f_kept_shelves (de_var 0) (de_callTy cd_list T.b_list bt_list (da_cons (de_var 1) da_nil)))
    (dss_cons (ds_fld T.f_aisle (de_var 0) (de_var 2))
    (dss_one (ds_fld T.f_kept_wishes (de_var 0) (de_callTy cd_list T.b_list bt_list (da_cons (de_var 3) da_nil)))))))))))
abbrev s_l_wish : Stmt := top 33
theorem sc_l_wish : FnScope ["_law_row", "_law_shelves", "_law_many", "_law_kind", "_law_side", "_law_after", "_law_k"] ["_law_row", "_law_shelves", "_law_many"] (defScope s_l_wish) := ⟨rfl, rfl, rfl, by decide +kernel, rfl, by decide +kernel, by decide +kernel⟩
theorem len_l_wish (C : CC) : ∀ ds W Qd Ed, sp_l_wish C ds W Qd Ed → ds.length = ["_law_row", "_law_shelves", "_law_many"].length := by
  intro ds W Qd Ed h; unfold sp_l_wish at h; (repeat (obtain ⟨_, h⟩ := h)); subst_vars; rfl
theorem ok_l_wish {f : Addr} {fd : FuncData} (F : Fun K "_law_wish" "_law_wish" s_l_wish f fd) (T : Txt w K mg C) (G_l_taken : Cd P w K mg base 1 "_law_taken" (sp_l_taken C)) : FnOk P w K mg base (L2.CX P w) 2 f fd ["_law_row", "_law_shelves", "_law_many"] (liftS K (sp_l_wish C)) :=
  fn_q (k := 1) F sc_l_wish rfl (len_l_wish C) (q_l_wish C) fun cdv A outer s H E c =>
    (dss_cons (ds_set 3 c (de_ix c (de_lst (da_cons de_str (da_cons de_str da_nil))) (de_call c G_l_taken (da_cons (de_var 0) (da_cons de_int da_nil)))))
    (dss_cons (ds_set 4 c (de_ix c (de_lst (da_cons de_str (da_cons de_str (da_cons de_str (da_cons de_str da_nil))))) (de_call c G_l_taken (da_cons (de_var 0) (da_cons de_int da_nil)))))
    (dss_cons (ds_setLc 5 (own := [("_law_k", 6)]) c (di_range1 T.b_range (de_var 2)) (blk_ok sc_l_wish rfl rfl (by decide +kernel)) (fun _ _ _ _ _ => (pgt_name 6 (c.blk _ _ _ _ _).nd)) (fun _ _ _ _ _ => (dts_one (dt_cmp (od_eq (c.blk _ _ _ _ _).room.units) (de_call (c.blk _ _ _ _ _) G_l_taken (da_cons (de_var 0) (da_cons (de_ix (c.blk _ _ _ _ _) (de_lst (da_cons de_int (da_cons de_int da_nil))) (de_callTy cd_int T.b_int bt_int (da_cons (de_cmp (od_eq (c.blk _ _ _ _ _).room.units) (de_var 6) de_int) da_nil))) da_nil))) de_int))) (fun _ _ _ _ _ => (de_var 6)))
    (dss_cons (ds_if (dt_cmp od_gt (de_call c G_l_taken (da_cons (de_var 0) (da_cons de_int da_nil))) de_int) (dss_one (ds_set 5 c (de_slice (de_var 5) do_none (do_some de_int)))) dss_nil)
    (dss_one (ds_ret (de_tup (da_cons (de_var 3) (da_cons (de_call c G_l_taken (da_cons (de_var 0) (da_cons (de_var 1) da_nil))) (da_cons (de_var 4) (da_cons (de_call c G_l_taken (da_cons (de_var 0) (da_cons de_int da_nil))) (da_cons (de_ix c (de_lst (da_cons de_int (da_cons de_int (da_cons de_int (da_cons de_int (da_cons de_int da_nil)))))) (de_call c G_l_taken (da_cons (de_var 0) (da_cons de_int da_nil)))) (da_cons (de_callTy cd_tuple T.b_tuple bt_tuple (da_cons (de_var 5) da_nil)) da_nil)))))))))))))
abbrev s_l_bar_of_wish : Stmt := top 38
theorem sc_l_bar_of_wish : FnScope ["_law_store_here", "_law_state", "_law_number", "_law_aisle", "_law_done", "_law_inside", "_law_kept", "_law_kind", "_law_shelf", "_law_side", "_law_crew", "_law_keep", "_law_after", "_law_left", "_law_one", "_law_beside", "_law_goods_here"] ["_law_store_here", "_law_state", "_law_number"] (defScope s_l_bar_of_wish) := ⟨rfl, rfl, rfl, by decide +kernel, rfl, by decide +kernel, by decide +kernel⟩
theorem len_l_bar_of_wish (C : CC) : ∀ ds W Qd Ed, sp_l_bar_of_wish C ds W Qd Ed → ds.length = ["_law_store_here", "_law_state", "_law_number"].length := by
  intro ds W Qd Ed h; unfold sp_l_bar_of_wish at h; (repeat (obtain ⟨_, h⟩ := h)); subst_vars; rfl
theorem ok_l_bar_of_wish {f : Addr} {fd : FuncData} (F : Fun K "_law_bar_of_wish" "_law_bar_of_wish" s_l_bar_of_wish f fd) (T : Txt w K mg C) (G_l_goods : Cd P w K mg base 1 "_law_goods" (sp_l_goods C)) : FnOk P w K mg base (L2.CX P w) 2 f fd ["_law_store_here", "_law_state", "_law_number"] (liftS K (sp_l_bar_of_wish C)) :=
  fn_q (k := 1) F sc_l_bar_of_wish rfl (len_l_bar_of_wish C) (q_l_bar_of_wish C) fun cdv A outer s H E c =>
    (dss_cons (ds_asg (de_var 1) (pgt_tup c.calm (pgts_cons (pgt_name 3 c.nd) (pgts_cons (pgt_name 4 c.nd) (pgts_cons (pgt_name 5 c.nd) (pgts_cons (pgt_name 6 c.nd) pgts_nil))))))
    (dss_cons (ds_asg (de_ix c (de_ix c (de_var 0) de_int) (de_var 2)) (pgt_tup c.calm (pgts_cons (pgt_name 7 c.nd) (pgts_cons (pgt_name 8 c.nd) (pgts_cons (pgt_name 9 c.nd) (pgts_cons (pgt_name 10 c.nd) (pgts_cons (pgt_name 11 c.nd) (pgts_cons (pgt_name 12 c.nd) pgts_nil))))))))
    (dss_cons (ds_if (dt_cmp (od_in c.u65) (de_var 2) (de_var 4)) (dss_one (ds_ret (de_tup (da_cons de_str (da_cons (de_var 2) da_nil))))) dss_nil)
    (dss_cons (ds_setLc 13 (own := [("_law_one", 14)]) c (di_seq (de_var 12)) (blk_ok sc_l_bar_of_wish rfl rfl (by decide +kernel)) (fun _ _ _ _ _ => (pgt_name 14 (c.blk _ _ _ _ _).nd)) (fun _ _ _ _ _ => (dts_one (dt_cmp (od_notIn (c.blk _ _ _ _ _).u65) (de_var 14) (de_var 4)))) (fun _ _ _ _ _ => (de_var 14)))
    (dss_cons (ds_if (dt_cmp (od_ne c.room.units) (de_var 13) (de_lst da_nil)) (dss_one (ds_ret (de_tup (da_cons de_str (da_cons (de_ix c (de_var 13) de_int) da_nil))))) dss_nil)
    (dss_cons (ds_if (dt_cmp (od_notIn c.u65) (de_var 10) (de_var 5)) (dss_one (ds_ret (de_tup (da_cons de_str (da_cons (de_var 10) da_nil))))) dss_nil)
    (dss_cons (ds_set 15 c (de_ix c (de_disp (dps_cons (de_lst (da_cons (de_var 8) da_nil)) (dps_cons (de_lst (da_cons (de_op od_add (de_var 8) de_int) da_nil)) (dps_cons (de_lst (da_cons (de_var 8) (da_cons (de_op od_add (de_var 8) de_int) da_nil))) dps_nil)))) (de_var 9)))
    (dss_cons (ds_if (dt_cmp (od_notIn c.u65) (de_var 3) (de_var 15)) (dss_one (ds_ret (de_tup (da_cons de_str (da_cons (de_var 3) da_nil))))) dss_nil)
    (dss_cons (ds_set 16 c (de_call c G_l_goods (da_cons (de_var 0) (da_cons (de_var 8) (da_cons (de_var 4) da_nil)))))
    (dss_cons (ds_if (dt_cmp (od_eq c.room.units) (de_var 7) de_str) (dss_one (ds_ret (de_if (dt_cmp od_le (de_var 16) de_int) (de_tup (da_cons de_str (da_cons (de_var 8) da_nil))) de_non))) dss_nil)
    (dss_one (ds_ret (de_if (dt_cmp od_ge (de_var 16) (de_ix c (de_ix c (de_ix c (de_var 0) de_int) (de_var 8)) de_int)) (de_tup (da_cons de_str (da_cons (de_var 8) da_nil))) de_non)))))))))))))
abbrev s_l_none : Stmt := top 43
theorem sc_l_none : FnScope ["_law_row", "_law_store_here", "_law_far", "_law_some"] ["_law_row", "_law_store_here"] (defScope s_l_none) := ⟨rfl, rfl, rfl, by decide +kernel, rfl, by decide +kernel, by decide +kernel⟩
theorem len_l_none (C : CC) : ∀ ds W Qd Ed, sp_l_none C ds W Qd Ed → ds.length = ["_law_row", "_law_store_here"].length := by
  intro ds W Qd Ed h; unfold sp_l_none at h; (repeat (obtain ⟨_, h⟩ := h)); subst_vars; rfl
theorem ok_l_none {f : Addr} {fd : FuncData} (F : Fun K "_law_none" "_law_none" s_l_none f fd) (T : Txt w K mg C) (G_l_taken : Cd P w K mg base 1 "_law_taken" (sp_l_taken C)) : FnOk P w K mg base (L2.CX P w) 2 f fd ["_law_row", "_law_store_here"] (liftS K (sp_l_none C)) :=
  fn_q (k := 1) F sc_l_none rfl (len_l_none C) (q_l_none C) fun cdv A outer s H E c =>
    (dss_cons (ds_set 2 c (de_call c G_l_taken (da_cons (de_var 0) (da_cons (de_op od_pow de_int de_int) da_nil))))
    (dss_cons (ds_set 3 c (de_lst (da_cons (de_tup (da_cons de_str (da_cons de_int da_nil))) (da_cons (de_tup (da_cons de_str (da_cons (de_op od_add de_int (de_var 2)) da_nil))) (da_cons (de_tup (da_cons de_str (da_cons (de_op od_sub (de_un ud_neg de_int) (de_var 2)) da_nil))) (da_cons (de_tup (da_cons de_str (da_cons (de_op od_add de_int (de_var 2)) da_nil))) (da_cons (de_tup (da_cons de_str (da_cons (de_op od_sub (de_un ud_neg de_int) (de_var 2)) da_nil))) (da_cons (de_tup (da_cons de_str (da_cons de_int da_nil))) da_nil))))))))
    (dss_cons (ds_set 3 c (de_op od_add (de_var 3) (de_lst (da_cons (de_tup (da_cons de_str (da_cons (de_un ud_neg de_int) da_nil))) (da_cons (de_tup (da_cons de_str (da_cons (de_op od_add (de_callB cd_len T.b_len bt_len (da_cons (de_ix c (de_var 1) de_int) da_nil)) (de_var 2)) da_nil))) (da_cons (de_tup (da_cons de_str (da_cons (de_op od_sub (de_un ud_neg de_int) (de_var 2)) da_nil))) (da_cons (de_tup (da_cons de_str (da_cons de_int da_nil))) (da_cons (de_tup (da_cons de_str (da_cons de_int da_nil))) (da_cons (de_tup (da_cons de_str da_nil)) da_nil)))))))))
    (dss_one (ds_ret (de_ix c (de_op od_add (de_var 3) (de_lst (da_cons (de_tup (da_cons de_str da_nil)) (da_cons (de_tup (da_cons de_str (da_cons de_int (da_cons de_int da_nil)))) (da_cons (de_tup (da_cons de_str (da_cons de_int (da_cons de_int da_nil)))) (da_cons (de_tup (da_cons de_str da_nil)) da_nil)))))) (de_call c G_l_taken (da_cons (de_var 0) (da_cons de_int da_nil)))))))))
abbrev s_bar_of : Stmt := top 12
theorem sc_bar_of : FnScope ["store", "state", "step"] ["store", "state", "step"] (defScope s_bar_of) := ⟨rfl, rfl, rfl, by decide +kernel, rfl, by decide +kernel, by decide +kernel⟩
theorem len_bar_of (C : CC) : ∀ ds W Qd Ed, sp_bar_of C ds W Qd Ed → ds.length = ["store", "state", "step"].length := by
  intro ds W Qd Ed h; unfold sp_bar_of at h; (repeat (obtain ⟨_, h⟩ := h)); subst_vars; rfl
theorem ok_bar_of {f : Addr} {fd : FuncData} (F : Fun K "bar_of" "bar_of" s_bar_of f fd) (T : Txt w K mg C) (G_bar_of_shift : Cd P w K mg base 1 "bar_of_shift" (sp_bar_of_shift C)) (G_bar_of_wish : Cd P w K mg base 2 "bar_of_wish" (sp_bar_of_wish C)) : FnOk P w K mg base (L2.CX P w) 3 f fd ["store", "state", "step"] (liftS K (sp_bar_of C)) :=
  fn_q (k := 2) F sc_bar_of rfl (len_bar_of C) (q_bar_of C) fun cdv A outer s H E c =>
    (dss_cons (ds_if (dt_cmp (od_eq c.room.units) (de_var 2) (de_glob T.g_WAIT)) (dss_one (ds_ret de_non)) dss_nil)
    (dss_cons (ds_if (dt_cmp (od_eq c.room.units) (de_ix c (de_var 2) de_int) de_str) (dss_one (ds_ret (de_call c G_bar_of_shift (da_cons (de_var 0) (da_cons (de_var 1) (da_cons (de_ix c (de_var 2) de_int) da_nil)))))) dss_nil)
    (dss_cons (ds_if (dt_cmp (od_eq c.room.units) (de_ix c (de_var 2) de_int) de_str) (dss_one (ds_ret (de_call c G_bar_of_wish (da_cons (de_var 0) (da_cons (de_var 1) (da_cons (de_ix c (de_var 2) de_int) da_nil)))))) dss_nil)
    (dss_cons (ds_if (dt_cmp (od_eq c.room.units) (de_cmp (od_eq c.room.units) (de_ix c (de_var 2) de_int) de_str) (de_cmp (od_in c.u65) (de_ix c (de_var 2) de_int) (de_ix c (de_var 1) de_int))) (dss_one (ds_ret (de_tup (da_cons (de_ix c (de_lst (da_cons de_str (da_cons de_str da_nil))) (de_callTy cd_int T.b_int bt_int (da_cons (de_cmp (od_eq c.room.units) (de_ix c (de_var 2) de_int) de_str) da_nil))) (da_cons (de_ix c (de_var 2) de_int) da_nil))))) dss_nil)
    (dss_one (ds_ret de_non))))))
abbrev s_l_store : Stmt := top 34
theorem sc_l_store : FnScope ["_law_row", "_law_shelves", "_law_k", "_law_room", "_law_aisle", "_law_many", "_law_wishes"] ["_law_row"] (defScope s_l_store) := ⟨rfl, rfl, rfl, by decide +kernel, rfl, by decide +kernel, by decide +kernel⟩
theorem len_l_store (C : CC) : ∀ ds W Qd Ed, sp_l_store C ds W Qd Ed → ds.length = ["_law_row"].length := by
  intro ds W Qd Ed h; unfold sp_l_store at h; (repeat (obtain ⟨_, h⟩ := h)); subst_vars; rfl
theorem ok_l_store {f : Addr} {fd : FuncData} (F : Fun K "_law_store" "_law_store" s_l_store f fd) (T : Txt w K mg C) (G_l_taken : Cd P w K mg base 1 "_law_taken" (sp_l_taken C)) (G_l_wish : Cd P w K mg base 2 "_law_wish" (sp_l_wish C)) : FnOk P w K mg base (L2.CX P w) 3 f fd ["_law_row"] (liftS K (sp_l_store C)) :=
  fn_q (k := 2) F sc_l_store rfl (len_l_store C) (q_l_store C) fun cdv A outer s H E c =>
    (dss_cons (ds_set 1 c (de_lstM da_nil))
    (dss_cons (ds_for c (di_range1 T.b_range (de_op od_add de_int (de_call c G_l_taken (da_cons (de_var 0) (da_cons de_int da_nil))))) (pgt_name 2 c.nd) (dss_cons (ds_set 3 c (de_ix c (de_lst (da_cons (de_op od_add de_int (de_call c G_l_taken (da_cons (de_var 0) (da_cons de_int da_nil)))) (da_cons de_int (da_cons (de_call c G_l_taken (da_cons (de_var 0) (da_cons de_int da_nil))) da_nil)))) (de_call c G_l_taken (da_cons (de_var 0) (da_cons de_int da_nil)))))
    (dss_one (ds_expr (m_append (de_var 1) (da_cons (de_tup (da_cons (de_var 3) (da_cons (de_call c G_l_taken (da_cons (de_var 0) (da_cons (de_op od_add (de_var 3) de_int) da_nil))) (da_cons (de_callTy cd_int T.b_int bt_int (da_cons (de_cmp (od_eq c.room.units) (de_call c G_l_taken (da_cons (de_var 0) (da_cons de_int da_nil))) de_int) da_nil)) da_nil)))) da_nil))))))
    (dss_cons (ds_set 4 c (de_call c G_l_taken (da_cons (de_var 0) (da_cons (de_op od_add (de_callB cd_len T.b_len bt_len (da_cons (de_var 1) da_nil)) de_int) da_nil))))
    (dss_cons (ds_set 5 c (de_ix c (de_lst (da_cons (de_op od_add de_int (de_call c G_l_taken (da_cons (de_var 0) (da_cons de_int da_nil)))) (da_cons (de_call c G_l_taken (da_cons (de_var 0) (da_cons de_int da_nil))) da_nil))) (de_call c G_l_taken (da_cons (de_var 0) (da_cons de_int da_nil)))))
    (dss_cons (ds_if (dw_t (dw_and (dt_cmp (od_eq c.room.units) (de_var 5) de_int) (dw_and1 (dt_cmp od_gt (de_callB cd_len T.b_len bt_len (da_cons (de_var 1) da_nil)) de_int)))) (dss_one (ds_set 5 c (de_op od_add de_int (de_callTy cd_int T.b_int bt_int (da_cons (de_cmp (od_eq c.room.units) (de_call c G_l_taken (da_cons (de_var 0) (da_cons de_int da_nil))) de_int) da_nil))))) dss_nil)
    (dss_cons (ds_set 6 c (de_lstM da_nil))
    (dss_cons (ds_for c (di_range1 T.b_range (de_var 5)) (pgt_name 2 c.nd) (dss_one (ds_expr (m_append (de_var 6) (da_cons (de_call c G_l_wish (da_cons (de_var 0) (da_cons (de_callB cd_len T.b_len bt_len (da_cons (de_var 1) da_nil)) (da_cons (de_ix c (de_lst (da_cons (de_var 2) (da_cons (de_var 5) da_nil))) (de_callTy cd_int T.b_int bt_int (da_cons (de_cmp (od_eq c.room.units) (de_call c G_l_taken (da_cons (de_var 0) (da_cons de_int da_nil))) de_int) da_nil))) da_nil)))) da_nil)))))
    (dss_one (ds_ret (de_tup (da_cons (de_frz (de_var 1)) (da_cons (de_var 4) (da_cons (de_frz (de_var 6)) da_nil)))))))))))))
abbrev s_l_bar : Stmt := top 37
theorem sc_l_bar : FnScope ["_law_store_here", "_law_state", "_law_step", "_law_aisle", "_law_done", "_law_inside", "_law_kept", "_law_shelf"] ["_law_store_here", "_law_state", "_law_step"] (defScope s_l_bar) := ⟨rfl, rfl, rfl, by decide +kernel, rfl, by decide +kernel, by decide +kernel⟩
theorem len_l_bar (C : CC) : ∀ ds W Qd Ed, sp_l_bar C ds W Qd Ed → ds.length = ["_law_store_here", "_law_state", "_law_step"].length := by
  intro ds W Qd Ed h; unfold sp_l_bar at h; (repeat (obtain ⟨_, h⟩ := h)); subst_vars; rfl
theorem ok_l_bar {f : Addr} {fd : FuncData} (F : Fun K "_law_bar" "_law_bar" s_l_bar f fd) (T : Txt w K mg C) (G_l_bar_of_wish : Cd P w K mg base 2 "_law_bar_of_wish" (sp_l_bar_of_wish C)) : FnOk P w K mg base (L2.CX P w) 3 f fd ["_law_store_here", "_law_state", "_law_step"] (liftS K (sp_l_bar C)) :=
  fn_q (k := 2) F sc_l_bar rfl (len_l_bar C) (q_l_bar C) fun cdv A outer s H E c =>
    (dss_cons (ds_asg (de_var 1) (pgt_tup c.calm (pgts_cons (pgt_name 3 c.nd) (pgts_cons (pgt_name 4 c.nd) (pgts_cons (pgt_name 5 c.nd) (pgts_cons (pgt_name 6 c.nd) pgts_nil))))))
    (dss_cons (ds_if (dt_cmp (od_eq c.room.units) (de_ix c (de_var 2) de_int) de_str) (dss_one (ds_ret de_non)) dss_nil)
    (dss_cons (ds_if (dt_cmp (od_eq c.room.units) (de_ix c (de_var 2) de_int) de_str) (dss_cons (ds_set 7 c (de_op od_sub (de_var 3) (de_callTy cd_int T.b_int bt_int (da_cons (de_cmp (od_eq c.room.units) (de_ix c (de_var 2) de_int) (de_un ud_neg de_int)) da_nil))))
    (dss_cons (ds_if (dw_t (dw_or (dt_cmp (od_lt c.room.units0) (de_var 7) de_int) (dw_or1 (dt_cmp od_ge (de_var 7) (de_callB cd_len T.b_len bt_len (da_cons (de_ix c (de_var 0) de_int) da_nil)))))) (dss_one (ds_ret (de_tup (da_cons de_str (da_cons (de_var 3) da_nil))))) dss_nil)
    (dss_cons (ds_if (dt_cmp (od_eq c.room.units) (de_ix c (de_ix c (de_ix c (de_var 0) de_int) (de_var 7)) de_int) de_int) (dss_one (ds_ret (de_tup (da_cons de_str (da_cons (de_var 7) da_nil))))) dss_nil)
    (dss_cons (ds_if (dt_cmp (od_ne c.room.units) (de_var 5) (de_tup da_nil)) (dss_one (ds_ret (de_tup (da_cons de_str (da_cons (de_callB (cd_minI c.calm c.room.units) T.b_min bt_min (da_cons (de_var 5) da_nil)) da_nil))))) dss_nil)
    (dss_one (ds_ret (de_if (dt_cmp od_gt (de_var 6) de_int) (de_tup (da_cons de_str (da_cons (de_var 6) da_nil))) de_non))))))) dss_nil)
    (dss_cons (ds_if (dt_cmp (od_eq c.room.units) (de_ix c (de_var 2) de_int) de_str) (dss_one (ds_ret (de_if (dt_cmp (od_in c.u65) (de_ix c (de_var 2) de_int) (de_var 5)) (de_tup (da_cons de_str (da_cons (de_ix c (de_var 2) de_int) da_nil))) de_non))) dss_nil)
    (dss_cons (ds_if (dt_cmp (od_eq c.room.units) (de_ix c (de_var 2) de_int) de_str) (dss_one (ds_ret (de_if (dt_cmp (od_in c.u65) (de_ix c (de_var 2) de_int) (de_var 5)) de_non (de_tup (da_cons de_str (da_cons (de_ix c (de_var 2) de_int) da_nil)))))) dss_nil)
    (dss_one (ds_ret (de_call c G_l_bar_of_wish (da_cons (de_var 0) (da_cons (de_var 1) (da_cons (de_ix c (de_var 2) de_int) da_nil)))))))))))
abbrev s_barred : Stmt := top 13
theorem sc_barred : FnScope ["store", "state", "step"] ["store", "state", "step"] (defScope s_barred) := ⟨rfl, rfl, rfl, by decide +kernel, rfl, by decide +kernel, by decide +kernel⟩
theorem len_barred (C : CC) : ∀ ds W Qd Ed, sp_barred C ds W Qd Ed → ds.length = ["store", "state", "step"].length := by
  intro ds W Qd Ed h; unfold sp_barred at h; (repeat (obtain ⟨_, h⟩ := h)); subst_vars; rfl
theorem ok_barred {f : Addr} {fd : FuncData} (F : Fun K "barred" "barred" s_barred f fd) (T : Txt w K mg C) (G_need_step : Cd P w K mg base 1 "need_step" (sp_need_step C)) (G_bar_of : Cd P w K mg base 3 "bar_of" (sp_bar_of C)) : FnOk P w K mg base (L2.CX P w) 4 f fd ["store", "state", "step"] (liftS K (sp_barred C)) :=
  fn_q (k := 3) F sc_barred rfl (len_barred C) (q_barred C) fun cdv A outer s H E c =>
    (dss_cons (ds_expr (de_call c G_need_step (da_cons (de_var 0) (da_cons (de_var 2) da_nil))))
    (dss_one (ds_ret (de_call c G_bar_of (da_cons (de_var 0) (da_cons (de_var 1) (da_cons (de_var 2) da_nil)))))))
abbrev s_gone : Stmt := top 16
theorem sc_gone : FnScope ["store", "state", "plan", "found", "at", "bar"] ["store", "state", "plan"] (defScope s_gone) := ⟨rfl, rfl, rfl, by decide +kernel, rfl, by decide +kernel, by decide +kernel⟩
theorem len_gone (C : CC) : ∀ ds W Qd Ed, sp_gone C ds W Qd Ed → ds.length = ["store", "state", "plan"].length := by
  intro ds W Qd Ed h; unfold sp_gone at h; (repeat (obtain ⟨_, h⟩ := h)); subst_vars; rfl
theorem ok_gone {f : Addr} {fd : FuncData} (F : Fun K "gone" "gone" s_gone f fd) (T : Txt w K mg C) (G_Barred : Rd P w K mg base 1 "Barred" C.barred ["rule", "number", "at"]) (G_behind : Cd P w K mg base 1 "behind" (sp_behind C)) (G_bar_of : Cd P w K mg base 3 "bar_of" (sp_bar_of C)) : FnOk P w K mg base (L2.CX P w) 4 f fd ["store", "state", "plan"] (liftS K (sp_gone C)) :=
  fn_qd (k := 3) F sc_gone rfl (len_gone C) (q_gone C) fun cdv A outer s H E c =>
    (dss_cons (ds_set 3 c (de_lstM (da_cons (de_var 1) da_nil)))
    (dss_cons (ds_for c (di_range1 T.b_range (de_callB cd_len T.b_len bt_len (da_cons (de_var 2) da_nil))) (pgt_name 4 c.nd) (dss_cons (ds_set 5 c (de_call c G_bar_of (da_cons (de_var 0) (da_cons (de_ix c (de_var 3) (de_un ud_neg de_int)) (da_cons (de_ix c (de_var 2) (de_var 4)) da_nil)))))
    (dss_cons (ds_if (dt_cmp od_isNot (de_var 5) de_non) (dss_one (ds_raise c (takes_of rfl rfl rfl rfl) G_Barred (da_cons (de_ix c (de_var 5) de_int) (da_cons (de_ix c (de_var 5) de_int) (da_cons (de_var 4) da_nil))))) dss_nil)
    (dss_one (ds_expr (m_append (de_var 3) (da_cons (de_call c G_behind (da_cons (de_var 0) (da_cons (de_ix c (de_var 3) (de_un ud_neg de_int)) (da_cons (de_ix c (de_var 2) (de_var 4)) da_nil)))) da_nil)))))))
    (dss_one (ds_ret (de_var 3)))))
abbrev s_l_made : Stmt := top 35
theorem sc_l_made : FnScope ["_law_store_here"] ["_law_store_here"] (defScope s_l_made) := ⟨rfl, rfl, rfl, by decide +kernel, rfl, by decide +kernel, by decide +kernel⟩
theorem len_l_made (C : CC) : ∀ ds W Qd Ed, sp_l_made C ds W Qd Ed → ds.length = ["_law_store_here"].length := by
  intro ds W Qd Ed h; unfold sp_l_made at h; (repeat (obtain ⟨_, h⟩ := h)); subst_vars; rfl
theorem ok_l_made {f : Addr} {fd : FuncData} (F : Fun K "_law_made" "_law_made" s_l_made f fd) (T : Txt w K mg C) (G_Store : Kd P w K mg base 2 "Store" C.st (sp_Store_init C)) : FnOk P w K mg base (L2.CX P w) 4 f fd ["_law_store_here"] (liftS K (sp_l_made C)) :=
  fn_q (k := 3) F sc_l_made rfl (len_l_made C) (q_l_made C) fun cdv A outer s H E c =>
    (dss_one (ds_ret (de_frzI (de_make c G_Store (da_cons (de_callTy cd_list T.b_list bt_list (da_cons (de_ix c (de_var 0) de_int) da_nil)) (da_cons (de_ix c (de_var 0) de_int) (da_cons (de_callTy cd_list T.b_list bt_list (da_cons (de_ix c (de_var 0) de_int) da_nil)) da_nil)))))))
abbrev s_l_steps : Stmt := top 41
theorem sc_l_steps : FnScope ["_law_store_here", "_law_state", "_law_step"] ["_law_store_here", "_law_state"] (defScope s_l_steps) := ⟨rfl, rfl, rfl, by decide +kernel, rfl, by decide +kernel, by decide +kernel⟩
theorem len_l_steps (C : CC) : ∀ ds W Qd Ed, sp_l_steps C ds W Qd Ed → ds.length = ["_law_store_here", "_law_state"].length := by
  intro ds W Qd Ed h; unfold sp_l_steps at h; (repeat (obtain ⟨_, h⟩ := h)); subst_vars; rfl
theorem ok_l_steps {f : Addr} {fd : FuncData} (F : Fun K "_law_steps" "_law_steps" s_l_steps f fd) (T : Txt w K mg C) (G_l_every : Cd P w K mg base 1 "_law_every" (sp_l_every C)) (G_l_bar : Cd P w K mg base 3 "_law_bar" (sp_l_bar C)) : FnOk P w K mg base (L2.CX P w) 4 f fd ["_law_store_here", "_law_state"] (liftS K (sp_l_steps C)) :=
  fn_q (k := 3) F sc_l_steps rfl (len_l_steps C) (q_l_steps C) fun cdv A outer s H E c =>
    (dss_one (ds_ret (de_lc (own := [("_law_step", 2)]) c (di_seq (de_call c G_l_every (da_cons (de_var 0) da_nil))) (blk_ok sc_l_steps rfl rfl (by decide +kernel)) (fun _ _ _ _ _ => (pgt_name 2 (c.blk _ _ _ _ _).nd)) (fun _ _ _ _ _ => (dts_one (dt_cmp od_is (de_call (c.blk _ _ _ _ _) G_l_bar (da_cons (de_var 0) (da_cons (de_var 1) (da_cons (de_var 2) da_nil)))) de_non))) (fun _ _ _ _ _ => (de_var 2)))))
abbrev s_l_due : Stmt := top 45
theorem sc_l_due : FnScope ["_law_store_here", "_law_plan", "_law_states", "_law_at", "_law_bar_here"] ["_law_store_here", "_law_plan"] (defScope s_l_due) := ⟨rfl, rfl, rfl, by decide +kernel, rfl, by decide +kernel, by decide +kernel⟩
theorem len_l_due (C : CC) : ∀ ds W Qd Ed, sp_l_due C ds W Qd Ed → ds.length = ["_law_store_here", "_law_plan"].length := by
  intro ds W Qd Ed h; unfold sp_l_due at h; (repeat (obtain ⟨_, h⟩ := h)); subst_vars; rfl
theorem ok_l_due {f : Addr} {fd : FuncData} (F : Fun K "_law_due" "_law_due" s_l_due f fd) (T : Txt w K mg C) (G_l_begin : Cd P w K mg base 1 "_law_begin" (sp_l_begin C)) (G_l_behind : Cd P w K mg base 1 "_law_behind" (sp_l_behind C)) (G_l_bar : Cd P w K mg base 3 "_law_bar" (sp_l_bar C)) : FnOk P w K mg base (L2.CX P w) 4 f fd ["_law_store_here", "_law_plan"] (liftS K (sp_l_due C)) :=
  fn_q (k := 3) F sc_l_due rfl (len_l_due C) (q_l_due C) fun cdv A outer s H E c =>
    (dss_cons (ds_set 2 c (de_lstM (da_cons (de_call c G_l_begin (da_cons (de_var 0) da_nil)) da_nil)))
    (dss_cons (ds_for c (di_range1 T.b_range (de_callB cd_len T.b_len bt_len (da_cons (de_var 1) da_nil))) (pgt_name 3 c.nd) (dss_cons (ds_set 4 c (de_call c G_l_bar (da_cons (de_var 0) (da_cons (de_ix c (de_var 2) (de_un ud_neg de_int)) (da_cons (de_ix c (de_var 1) (de_var 3)) da_nil)))))
    (dss_cons (ds_if (dt_cmp od_isNot (de_var 4) de_non) (dss_one (ds_ret (de_tup (da_cons (de_frz (de_var 2)) (da_cons (de_op od_add (de_var 4) (de_tup (da_cons (de_var 3) da_nil))) da_nil))))) dss_nil)
    (dss_one (ds_expr (m_append (de_var 2) (da_cons (de_call c G_l_behind (da_cons (de_var 0) (da_cons (de_ix c (de_var 2) (de_un ud_neg de_int)) (da_cons (de_ix c (de_var 1) (de_var 3)) da_nil)))) da_nil)))))))
    (dss_one (ds_ret (de_tup (da_cons (de_frz (de_var 2)) (da_cons de_non da_nil)))))))
abbrev s_played : Stmt := top 17
theorem sc_played : FnScope ["store", "plan", "step"] ["store", "plan"] (defScope s_played) := ⟨rfl, rfl, rfl, by decide +kernel, rfl, by decide +kernel, by decide +kernel⟩
theorem len_played (C : CC) : ∀ ds W Qd Ed, sp_played C ds W Qd Ed → ds.length = ["store", "plan"].length := by
  intro ds W Qd Ed h; unfold sp_played at h; (repeat (obtain ⟨_, h⟩ := h)); subst_vars; rfl
theorem ok_played {f : Addr} {fd : FuncData} (F : Fun K "played" "played" s_played f fd) (T : Txt w K mg C) (G_begin : Cd P w K mg base 1 "begin" (sp_begin C)) (G_need_step : Cd P w K mg base 1 "need_step" (sp_need_step C)) (G_gone : Cd P w K mg base 4 "gone" (sp_gone C)) : FnOk P w K mg base (L2.CX P w) 5 f fd ["store", "plan"] (liftS K (sp_played C)) :=
  fn_q (k := 4) F sc_played rfl (len_played C) (q_played C) fun cdv A outer s H E c =>
    (dss_cons (ds_for c (di_seq (de_var 1)) (pgt_name 2 c.nd) (dss_one (ds_expr (de_call c G_need_step (da_cons (de_var 0) (da_cons (de_var 2) da_nil))))))
    (dss_one (ds_ret (de_call c G_gone (da_cons (de_var 0) (da_cons (de_call c G_begin (da_cons (de_var 0) da_nil)) (da_cons (de_var 1) da_nil)))))))
abbrev s_law : Stmt := top 46
theorem sc_law : FnScope ["_law_script", "_law_row", "_law_store_here", "_law_told", "_law_plan", "_law_state", "_law_k", "_law_some", "_law_states", "_law_word_here", "_law_handed", "_law_good", "_law_found", "_law_step", "_law_ends", "_law_one", "_law_bad", "_law_at", "_law_works", "_law_work"] ["_law_script"] (defScope s_law) := ⟨rfl, rfl, rfl, by decide +kernel, rfl, by decide +kernel, by decide +kernel⟩
theorem len_law (C : CC) (PT : Addr) : ∀ ds W Qd Ed, sp_law C PT ds W Qd Ed → ds.length = ["_law_script"].length := by
  intro ds W Qd Ed h; unfold sp_law at h; (repeat (obtain ⟨_, h⟩ := h)); subst_vars; rfl
theorem ok_law {f cP PT : Addr} {kV doc pm ct oc : Value} {an od : Option Addr} {osl : Array (Option Value)} (lk : K.lookup f = some ⟨oc, od, .func (PySem.W.fnOf "law" "law" (defArgs s_law) (defBody s_law) (defScope s_law) .none kV doc pm an (.ref cP) ct), osl⟩) (hcd : PySem.W.codeIn K (.ref cP) "law" = true) (T : Txt w K mg C) (TB : LamX.TabB base mg cP PT) (WD : WordD P w K mg base C C.known C.ais 5 "_law_word" 1 2 (tsu_l_word C) (tre_l_word C)) (G_l_begin : Cd P w K mg base 1 "_law_begin" (sp_l_begin C)) (G_l_behind : Cd P w K mg base 1 "_law_behind" (sp_l_behind C)) (G_l_every : Cd P w K mg base 1 "_law_every" (sp_l_every C)) (G_l_taken : Cd P w K mg base 1 "_law_taken" (sp_l_taken C)) (G_is_end : Cd P w K mg base 1 "is_end" (sp_is_end C)) (G_l_none : Cd P w K mg base 2 "_law_none" (sp_l_none C)) (G_shifts : Cd P w K mg base 2 "shifts" (sp_shifts C)) (G_l_bar : Cd P w K mg base 3 "_law_bar" (sp_l_bar C)) (G_l_store : Cd P w K mg base 3 "_law_store" (sp_l_store C)) (G_l_due : Cd P w K mg base 4 "_law_due" (sp_l_due C)) (G_l_made : Cd P w K mg base 4 "_law_made" (sp_l_made C)) (G_l_steps : Cd P w K mg base 4 "_law_steps" (sp_l_steps C)) (G_barred : Cd P w K mg base 4 "barred" (sp_barred C)) (G_played : Cd P w K mg base 5 "played" (sp_played C)) :
    FnOk P w K mg base (L2.CX P w) 8 f (PySem.W.fnOf "law" "law" (defArgs s_law) (defBody s_law) (defScope s_law) .none kV doc pm an (.ref cP) ct) ["_law_script"] (liftS K (sp_law C PT)) :=
  fn_lam (k := 7) lk hcd sc_law rfl (len_law C PT) fun A outer s H E c => ⟨td_law C PT _ _ _ _,
    (dss_cons (ds_set 1 c (de_lstM (da_cons (de_var 0) (da_cons de_int (da_cons de_int da_nil)))))
    (dss_cons (ds_set 2 c (de_call c G_l_store (da_cons (de_var 1) da_nil)))
    (dss_cons (ds_set 3 c (de_call c G_l_made (da_cons (de_var 2) da_nil)))
    (dss_cons (ds_set 4 c (de_lstM da_nil))
    (dss_cons (ds_set 5 c (de_call c G_l_begin (da_cons (de_var 2) da_nil)))
    (dss_cut (ds_for c (di_range1 T.b_range (de_call c G_l_taken (da_cons (de_var 1) (da_cons de_int da_nil)))) (pgt_name 6 c.nd) (dss_cut (ds_set 7 c (de_ix c (de_lst (da_cons (de_call c G_l_steps (da_cons (de_var 2) (da_cons (de_var 5) da_nil))) (da_cons (de_call c G_l_every (da_cons (de_var 2) da_nil)) da_nil))) (de_callTy cd_int T.b_int bt_int (da_cons (de_cmp (od_eq c.room.units) (de_call c G_l_taken (da_cons (de_var 1) (da_cons de_int da_nil))) de_int) da_nil))))
    (dss_cons (ds_expr (m_append (de_var 4) (da_cons (de_ix c (de_var 7) (de_call c G_l_taken (da_cons (de_var 1) (da_cons (de_callB cd_len T.b_len bt_len (da_cons (de_var 7) da_nil)) da_nil)))) da_nil)))
    (dss_one (ds_if (dt_cmp od_is (de_call c G_l_bar (da_cons (de_var 2) (da_cons (de_var 5) (da_cons (de_ix c (de_var 4) (de_un ud_neg de_int)) da_nil)))) de_non) (dss_one (ds_set 5 c (de_call c G_l_behind (da_cons (de_var 2) (da_cons (de_var 5) (da_cons (de_ix c (de_var 4) (de_un ud_neg de_int)) da_nil)))))) dss_nil)))))
    (dss_cut (ds_asg (de_call c G_l_due (da_cons (de_var 2) (da_cons (de_var 4) da_nil))) (pgt_tup c.calm (pgts_cons (pgt_name 8 c.nd) (pgts_cons (pgt_name 9 c.nd) pgts_nil))))
    (dss_cons (ds_set 10 c (de_callTy cd_list T.b_list bt_list (da_cons (de_var 4) da_nil)))
    (dss_cut (ds_if (dw_t (dw_or (dt_cmp (od_ne c.room.units) (de_word c WD (de_lam TB rfl (LamX.lamS_by (sc := defScope s_law) (by decide +kernel)) rfl) rfl (by
      rintro o c td ⟨z, hz, h, rfl⟩
      simp only [List.mem_cons, List.not_mem_nil, or_false] at hz
      rcases hz with rfl | rfl | rfl | rfl
      · exact ⟨_, _, _, h, ⟨LamX.lamS_by (sc := defScope s_law) (by decide +kernel), fun _ _ _ _ _ => rfl, fun A outer s H E f c2 c =>
      (de_frz (de_call c G_played (da_cons (de_var 3) (da_cons (de_var 10) da_nil))))⟩⟩
      · exact ⟨_, _, _, h, ⟨LamX.lamS_by (sc := defScope s_law) (by decide +kernel), fun _ _ _ _ _ => rfl, fun A outer s H E f c2 c =>
      (de_frz (de_call c G_played (da_cons (de_var 3) (da_cons (de_op od_add (de_op od_add (de_slice (de_var 4) do_none (do_some (de_var 17))) (de_lst (da_cons (de_var 16) da_nil))) (de_slice (de_var 4) (do_some (de_var 17)) do_none)) da_nil))))⟩⟩
      · exact ⟨_, _, _, h, ⟨LamX.lamS_by (sc := defScope s_law) (by decide +kernel), fun _ _ _ _ _ => rfl, fun A outer s H E f c2 c =>
      (de_call c G_shifts (da_cons (de_var 3) (da_cons (de_op od_add (de_op od_add (de_slice (de_var 4) do_none (do_some (de_var 17))) (de_lst (da_cons (de_var 16) da_nil))) (de_slice (de_var 4) (do_some (de_var 17)) do_none)) da_nil)))⟩⟩
      · exact ⟨_, _, _, h, ⟨LamX.lamS_by (sc := defScope s_law) (by decide +kernel), fun _ _ _ _ _ => rfl, fun A outer s H E f c2 c =>
      (de_call c G_barred (da_cons (de_var 3) (da_cons (de_var 5) (da_cons (de_var 16) da_nil))))⟩⟩)) (de_var 9)) (dw_or1 (dt_cmp (od_ne c.room.units) (de_var 10) (de_var 4))))) (dss_one (ds_ret de_bl)) dss_nil)
    (dss_cons (ds_set 11 c (de_slice (de_var 4) do_none (do_some (de_op od_sub (de_callB cd_len T.b_len bt_len (da_cons (de_var 8) da_nil)) de_int))))
    (dss_cut (ds_set 12 c (de_call c G_played (da_cons (de_var 3) (da_cons (de_var 11) da_nil))))
    (dss_cut (ds_if (dw_t (dw_or (dt_cmp (od_ne c.room.units) (de_var 12) (de_var 8)) (dw_or1 (dt_cmp (od_ne c.room.units) (de_call c G_shifts (da_cons (de_var 3) (da_cons (de_var 4) da_nil))) (de_callB cd_len T.b_len bt_len (da_cons (de_lc (own := [("_law_step", 13)]) c (di_seq (de_var 4)) (blk_ok sc_law rfl rfl (by decide +kernel)) (fun _ _ _ _ _ => (pgt_name 13 (c.blk _ _ _ _ _).nd)) (fun _ _ _ _ _ => (dts_one (dt_cmp (od_eq (c.blk _ _ _ _ _).room.units) (de_ix (c.blk _ _ _ _ _) (de_var 13) de_int) de_str))) (fun _ _ _ _ _ => (de_var 13))) da_nil)))))) (dss_one (ds_ret de_bl)) dss_nil)
    (dss_cons (ds_setLc 14 (own := [("_law_one", 15)]) c (di_seq (de_var 8)) (blk_ok sc_law rfl rfl (by decide +kernel)) (fun _ _ _ _ _ => (pgt_name 15 (c.blk _ _ _ _ _).nd)) (fun _ _ _ _ _ => dts_nil) (fun _ _ _ _ _ => (de_call (c.blk _ _ _ _ _) G_is_end (da_cons (de_var 3) (da_cons (de_var 15) da_nil)))))
    (dss_cut (ds_if (dt_cmp (od_ne c.room.units) (de_var 14) (de_lc (own := [("_law_one", 15)]) c (di_seq (de_var 8)) (blk_ok sc_law rfl rfl (by decide +kernel)) (fun _ _ _ _ _ => (pgt_name 15 (c.blk _ _ _ _ _).nd)) (fun _ _ _ _ _ => dts_nil) (fun _ _ _ _ _ => (de_and (de_cmp (od_eq (c.blk _ _ _ _ _).room.units) (de_callB cd_len T.b_len bt_len (da_cons (de_ix (c.blk _ _ _ _ _) (de_var 15) de_int) da_nil)) (de_callB cd_len T.b_len bt_len (da_cons (de_ix (c.blk _ _ _ _ _) (de_var 2) de_int) da_nil))) (de_one (de_cmp (od_eq (c.blk _ _ _ _ _).room.units) (de_ix (c.blk _ _ _ _ _) (de_var 15) de_int) (de_tup da_nil))))))) (dss_one (ds_ret de_bl)) dss_nil)
    (dss_cut (ds_expr (m_append (de_var 12) (da_cons de_int da_nil)))
    (dss_cons (ds_set 16 c (de_call c G_l_none (da_cons (de_var 1) (da_cons (de_var 2) da_nil))))
    (dss_cut (ds_set 17 c (de_call c G_l_taken (da_cons (de_var 1) (da_cons (de_op od_add (de_callB cd_len T.b_len bt_len (da_cons (de_var 4) da_nil)) de_int) da_nil))))
    (dss_cut (ds_set 18 c (de_lstM (da_cons (de_lam TB rfl (LamX.lamS_by (sc := defScope s_law) (by decide +kernel)) rfl) da_nil)))
    (dss_cut (ds_expr (m_append (de_var 18) (da_cons (de_lam TB rfl (LamX.lamS_by (sc := defScope s_law) (by decide +kernel)) rfl) da_nil)))
    (dss_cut (ds_expr (m_append (de_var 18) (da_cons (de_lam TB rfl (LamX.lamS_by (sc := defScope s_law) (by decide +kernel)) rfl) da_nil)))
    (dss_one (ds_ret (de_and (de_cmp (od_eq c.room.units) (de_lcWord c (takes_of rfl rfl rfl rfl) WD (di_seq (de_var 18)) (blk_ok sc_law rfl rfl (by decide +kernel)) rfl (by
      rintro o c td ⟨z, hz, h, rfl⟩
      simp only [List.mem_cons, List.not_mem_nil, or_false] at hz
      rcases hz with rfl | rfl | rfl | rfl
      · exact ⟨_, _, _, h, ⟨LamX.lamS_by (sc := defScope s_law) (by decide +kernel), fun _ _ _ _ _ => rfl, fun A outer s H E f c2 c =>
      (de_frz (de_call c G_played (da_cons (de_var 3) (da_cons (de_var 10) da_nil))))⟩⟩
      · exact ⟨_, _, _, h, ⟨LamX.lamS_by (sc := defScope s_law) (by decide +kernel), fun _ _ _ _ _ => rfl, fun A outer s H E f c2 c =>
      (de_frz (de_call c G_played (da_cons (de_var 3) (da_cons (de_op od_add (de_op od_add (de_slice (de_var 4) do_none (do_some (de_var 17))) (de_lst (da_cons (de_var 16) da_nil))) (de_slice (de_var 4) (do_some (de_var 17)) do_none)) da_nil))))⟩⟩
      · exact ⟨_, _, _, h, ⟨LamX.lamS_by (sc := defScope s_law) (by decide +kernel), fun _ _ _ _ _ => rfl, fun A outer s H E f c2 c =>
      (de_call c G_shifts (da_cons (de_var 3) (da_cons (de_op od_add (de_op od_add (de_slice (de_var 4) do_none (do_some (de_var 17))) (de_lst (da_cons (de_var 16) da_nil))) (de_slice (de_var 4) (do_some (de_var 17)) do_none)) da_nil)))⟩⟩
      · exact ⟨_, _, _, h, ⟨LamX.lamS_by (sc := defScope s_law) (by decide +kernel), fun _ _ _ _ _ => rfl, fun A outer s H E f c2 c =>
      (de_call c G_barred (da_cons (de_var 3) (da_cons (de_var 5) (da_cons (de_var 16) da_nil))))⟩⟩) (fun _ _ _ _ _ _ c => (pgt_name 19 c.nd)) (fun _ _ _ _ _ _ c => (de_var 19)) (fun _ _ _ _ _ _ c => (od_ne c.room.units)) (fun _ _ _ _ _ _ c => de_str)) (de_lst da_nil)) (de_one (de_cmp (od_eq c.room.units) (de_frz (de_call c G_played (da_cons (de_var 3) (da_cons (de_var 11) da_nil)))) (de_var 8)))))))))))))))))))))))))),
    fun ds W Qd Ed h => q_law C T.dis PT _ _ _ _ ds W Qd Ed h⟩
end
theorem all_mk {l : PySem.W.OpenLaw} {w : World} {K : PySem.W.Frag} {h : Heap} {mg : Str → Option Value} {fa : Addr} {q0 q1 q2 q3 q4 q5 q6 q7 q8 q9 q10 q11 q12 q13 q14 q15 q16 q17 q18 q19 q20 q21 q22 q23 q24 q25 q26 q27 q28 q29 q30 q31 q32 C_Store : Addr} (X : K.In h) (G : h.Ns mainGlobals mg) (hfa : mg "law" = some (.ref fa))
    {od0 od1 od2 od3 od4 od5 od6 od7 od8 od9 od10 od11 od12 od13 od14 od15 od16 od17 od18 od19 od20 od21 od22 od23 od24 od25 od26 od27 od28 od29 od30 od31 od32 an0 an1 an2 an3 an4 an5 an6 an7 an8 an9 an10 an11 an12 an13 an14 an15 an16 an17 an18 an19 an20 an21 an22 an23 an24 an25 an26 an27 an28 an29 an30 an31 an32 : Option Addr} {sl0 sl1 sl2 sl3 sl4 sl5 sl6 sl7 sl8 sl9 sl10 sl11 sl12 sl13 sl14 sl15 sl16 sl17 sl18 sl19 sl20 sl21 sl22 sl23 sl24 sl25 sl26 sl27 sl28 sl29 sl30 sl31 sl32 : Array (Option Value)} {oc0 oc1 oc2 oc3 oc4 oc5 oc6 oc7 oc8 oc9 oc10 oc11 oc12 oc13 oc14 oc15 oc16 oc17 oc18 oc19 oc20 oc21 oc22 oc23 oc24 oc25 oc26 oc27 oc28 oc29 oc30 oc31 oc32 kV0 kV1 kV2 kV3 kV4 kV5 kV6 kV7 kV8 kV9 kV10 kV11 kV12 kV13 kV14 kV15 kV16 kV17 kV18 kV19 kV20 kV21 kV22 kV23 kV24 kV25 kV26 kV27 kV28 kV29 kV30 kV31 kV32 dc0 dc1 dc2 dc3 dc4 dc5 dc6 dc7 dc8 dc9 dc10 dc11 dc12 dc13 dc14 dc15 dc16 dc17 dc18 dc19 dc20 dc21 dc22 dc23 dc24 dc25 dc26 dc27 dc28 dc29 dc30 dc31 dc32 pm0 pm1 pm2 pm3 pm4 pm5 pm6 pm7 pm8 pm9 pm10 pm11 pm12 pm13 pm14 pm15 pm16 pm17 pm18 pm19 pm20 pm21 pm22 pm23 pm24 pm25 pm26 pm27 pm28 pm29 pm30 pm31 pm32 cd0 cd1 cd2 cd3 cd4 cd5 cd6 cd7 cd8 cd9 cd10 cd11 cd12 cd13 cd14 cd15 cd16 cd17 cd18 cd19 cd20 cd21 cd22 cd23 cd24 cd25 cd26 cd27 cd28 cd29 cd30 cd31 ct0 ct1 ct2 ct3 ct4 ct5 ct6 ct7 ct8 ct9 ct10 ct11 ct12 ct13 ct14 ct15 ct16 ct17 ct18 ct19 ct20 ct21 ct22 ct23 ct24 ct25 ct26 ct27 ct28 ct29 ct30 ct31 ct32 : Value}
    {E_BadStore : Addr} {E_BadStep : Addr} {E_Barred : Addr} {E_BadText : Addr} {E_AisleError : Addr} {I_Barred : Addr} {NBarred : Addr} {nmBarred qBarred : Str} {bsBarred bmBarred subBarred : List Value} {snBarred : List Str} {abBarred : Bool} {colBarred : Option Bool} {ddBarred odBarred anBarred : Option Addr} {k0Barred k1Barred k2Barred k3Barred k5Barred : Option Value} {ocBarred kVBarred dcBarred pmBarred cdBarred ctBarred : Value} {slBarred : Array (Option Value)} {cP PT : Addr} {wdd : Option Addr} {wvs : Array Value} {wsl : Array (Option Value)} {wfile : Str} {wtf wtg wtt : Tok} {wflags wtext : Int} {winF : Bool} {tKINDS0 : Tok} {tKINDS1 : Tok} {aKINDS : Addr} {nKINDS : Nat} {dKINDS : Option Addr} {sKINDS : Array (Option Value)} {tMOST_KEEP : Tok} {tMOST_ROOM : Tok} {tMOST_SHELVES : Tok} {tMOST_WISHES : Tok} {tSIDES0 : Tok} {tSIDES1 : Tok} {tSIDES2 : Tok} {aSIDES : Addr} {nSIDES : Nat} {dSIDES : Option Addr} {sSIDES : Array (Option Value)} {tWAIT0 : Tok} {aWAIT : Addr} {nWAIT : Nat} {dWAIT : Option Addr} {sWAIT : Array (Option Value)}
    (aC_Store : PySem.W.nsIn K mainGlobals "Store" = some (some (.ref C_Store)))
    (pg_Store : PySem.W.plainGet K C_Store Str.empty = true)
    (hd_Store : PySem.W.hasDictIn K C_Store = true)
    (po_Store : PySem.W.plainOver K C_Store = true)
    (sa_Store : PySem.W.findIn K (.ref C_Store) "__setattr__" = some (some (.builtin "object.__setattr__")))
    (mk_Store : PySem.W.makesIn K C_Store = true)
    (kc_Store : PySem.W.keepIn K (.ref C_Store) = true)
    (a_begin : PySem.W.nsIn K mainGlobals "begin" = some (some (.ref q0)))
    (l_begin : K.lookup q0 = some ⟨oc0, od0, .func (PySem.W.fnOf "begin" "begin" (defArgs s_begin) (defBody s_begin) (defScope s_begin) .none kV0 dc0 pm0 an0 cd0 ct0), sl0⟩)
    (c_begin : PySem.W.codeIn K cd0 "begin" = true)
    (k_begin : PySem.W.keepIn K (.ref q0) = true)
    (a_need_step : PySem.W.nsIn K mainGlobals "need_step" = some (some (.ref q1)))
    (l_need_step : K.lookup q1 = some ⟨oc1, od1, .func (PySem.W.fnOf "need_step" "need_step" (defArgs s_need_step) (defBody s_need_step) (defScope s_need_step) .none kV1 dc1 pm1 an1 cd1 ct1), sl1⟩)
    (c_need_step : PySem.W.codeIn K cd1 "need_step" = true)
    (k_need_step : PySem.W.keepIn K (.ref q1) = true)
    (a_bar_of_shift : PySem.W.nsIn K mainGlobals "bar_of_shift" = some (some (.ref q2)))
    (l_bar_of_shift : K.lookup q2 = some ⟨oc2, od2, .func (PySem.W.fnOf "bar_of_shift" "bar_of_shift" (defArgs s_bar_of_shift) (defBody s_bar_of_shift) (defScope s_bar_of_shift) .none kV2 dc2 pm2 an2 cd2 ct2), sl2⟩)
    (c_bar_of_shift : PySem.W.codeIn K cd2 "bar_of_shift" = true)
    (k_bar_of_shift : PySem.W.keepIn K (.ref q2) = true)
    (a_behind : PySem.W.nsIn K mainGlobals "behind" = some (some (.ref q3)))
    (l_behind : K.lookup q3 = some ⟨oc3, od3, .func (PySem.W.fnOf "behind" "behind" (defArgs s_behind) (defBody s_behind) (defScope s_behind) .none kV3 dc3 pm3 an3 cd3 ct3), sl3⟩)
    (c_behind : PySem.W.codeIn K cd3 "behind" = true)
    (k_behind : PySem.W.keepIn K (.ref q3) = true)
    (a_shifts_of : PySem.W.nsIn K mainGlobals "shifts_of" = some (some (.ref q4)))
    (l_shifts_of : K.lookup q4 = some ⟨oc4, od4, .func (PySem.W.fnOf "shifts_of" "shifts_of" (defArgs s_shifts_of) (defBody s_shifts_of) (defScope s_shifts_of) .none kV4 dc4 pm4 an4 cd4 ct4), sl4⟩)
    (c_shifts_of : PySem.W.codeIn K cd4 "shifts_of" = true)
    (k_shifts_of : PySem.W.keepIn K (.ref q4) = true)
    (a_is_end : PySem.W.nsIn K mainGlobals "is_end" = some (some (.ref q5)))
    (l_is_end : K.lookup q5 = some ⟨oc5, od5, .func (PySem.W.fnOf "is_end" "is_end" (defArgs s_is_end) (defBody s_is_end) (defScope s_is_end) .none kV5 dc5 pm5 an5 cd5 ct5), sl5⟩)
    (c_is_end : PySem.W.codeIn K cd5 "is_end" = true)
    (k_is_end : PySem.W.keepIn K (.ref q5) = true)
    (a_must : PySem.W.nsIn K mainGlobals "must" = some (some (.ref q6)))
    (l_must : K.lookup q6 = some ⟨oc6, od6, .func (PySem.W.fnOf "must" "must" (defArgs s_must) (defBody s_must) (defScope s_must) .none kV6 dc6 pm6 an6 cd6 ct6), sl6⟩)
    (c_must : PySem.W.codeIn K cd6 "must" = true)
    (k_must : PySem.W.keepIn K (.ref q6) = true)
    (a_is_shelf : PySem.W.nsIn K mainGlobals "is_shelf" = some (some (.ref q7)))
    (l_is_shelf : K.lookup q7 = some ⟨oc7, od7, .func (PySem.W.fnOf "is_shelf" "is_shelf" (defArgs s_is_shelf) (defBody s_is_shelf) (defScope s_is_shelf) .none kV7 dc7 pm7 an7 cd7 ct7), sl7⟩)
    (c_is_shelf : PySem.W.codeIn K cd7 "is_shelf" = true)
    (k_is_shelf : PySem.W.keepIn K (.ref q7) = true)
    (a_is_wish : PySem.W.nsIn K mainGlobals "is_wish" = some (some (.ref q8)))
    (l_is_wish : K.lookup q8 = some ⟨oc8, od8, .func (PySem.W.fnOf "is_wish" "is_wish" (defArgs s_is_wish) (defBody s_is_wish) (defScope s_is_wish) .none kV8 dc8 pm8 an8 cd8 ct8), sl8⟩)
    (c_is_wish : PySem.W.codeIn K cd8 "is_wish" = true)
    (k_is_wish : PySem.W.keepIn K (.ref q8) = true)
    (a_Store_goods : PySem.W.findIn K (.ref C_Store) "goods" = some (some (.ref q9)))
    (i_Store_goods : PySem.W.isFn K (.ref q9) = true)
    (l_Store_goods : K.lookup q9 = some ⟨oc9, od9, .func (PySem.W.fnOf "goods" "Store.goods" (defArgs s_Store_goods) (defBody s_Store_goods) (defScope s_Store_goods) .none kV9 dc9 pm9 an9 cd9 ct9), sl9⟩)
    (c_Store_goods : PySem.W.codeIn K cd9 "Store.goods" = true)
    (k_Store_goods : PySem.W.keepIn K (.ref q9) = true)
    (a_Store_reaches : PySem.W.findIn K (.ref C_Store) "reaches" = some (some (.ref q10)))
    (i_Store_reaches : PySem.W.isFn K (.ref q10) = true)
    (l_Store_reaches : K.lookup q10 = some ⟨oc10, od10, .func (PySem.W.fnOf "reaches" "Store.reaches" (defArgs s_Store_reaches) (defBody s_Store_reaches) (defScope s_Store_reaches) .none kV10 dc10 pm10 an10 cd10 ct10), sl10⟩)
    (c_Store_reaches : PySem.W.codeIn K cd10 "Store.reaches" = true)
    (k_Store_reaches : PySem.W.keepIn K (.ref q10) = true)
    (a_l_taken : PySem.W.nsIn K mainGlobals "_law_taken" = some (some (.ref q11)))
    (l_l_taken : K.lookup q11 = some ⟨oc11, od11, .func (PySem.W.fnOf "_law_taken" "_law_taken" (defArgs s_l_taken) (defBody s_l_taken) (defScope s_l_taken) .none kV11 dc11 pm11 an11 cd11 ct11), sl11⟩)
    (c_l_taken : PySem.W.codeIn K cd11 "_law_taken" = true)
    (k_l_taken : PySem.W.keepIn K (.ref q11) = true)
    (a_l_goods : PySem.W.nsIn K mainGlobals "_law_goods" = some (some (.ref q12)))
    (l_l_goods : K.lookup q12 = some ⟨oc12, od12, .func (PySem.W.fnOf "_law_goods" "_law_goods" (defArgs s_l_goods) (defBody s_l_goods) (defScope s_l_goods) .none kV12 dc12 pm12 an12 cd12 ct12), sl12⟩)
    (c_l_goods : PySem.W.codeIn K cd12 "_law_goods" = true)
    (k_l_goods : PySem.W.keepIn K (.ref q12) = true)
    (a_l_behind : PySem.W.nsIn K mainGlobals "_law_behind" = some (some (.ref q13)))
    (l_l_behind : K.lookup q13 = some ⟨oc13, od13, .func (PySem.W.fnOf "_law_behind" "_law_behind" (defArgs s_l_behind) (defBody s_l_behind) (defScope s_l_behind) .none kV13 dc13 pm13 an13 cd13 ct13), sl13⟩)
    (c_l_behind : PySem.W.codeIn K cd13 "_law_behind" = true)
    (k_l_behind : PySem.W.keepIn K (.ref q13) = true)
    (a_l_every : PySem.W.nsIn K mainGlobals "_law_every" = some (some (.ref q14)))
    (l_l_every : K.lookup q14 = some ⟨oc14, od14, .func (PySem.W.fnOf "_law_every" "_law_every" (defArgs s_l_every) (defBody s_l_every) (defScope s_l_every) .none kV14 dc14 pm14 an14 cd14 ct14), sl14⟩)
    (c_l_every : PySem.W.codeIn K cd14 "_law_every" = true)
    (k_l_every : PySem.W.keepIn K (.ref q14) = true)
    (a_l_begin : PySem.W.nsIn K mainGlobals "_law_begin" = some (some (.ref q15)))
    (l_l_begin : K.lookup q15 = some ⟨oc15, od15, .func (PySem.W.fnOf "_law_begin" "_law_begin" (defArgs s_l_begin) (defBody s_l_begin) (defScope s_l_begin) .none kV15 dc15 pm15 an15 cd15 ct15), sl15⟩)
    (c_l_begin : PySem.W.codeIn K cd15 "_law_begin" = true)
    (k_l_begin : PySem.W.keepIn K (.ref q15) = true)
    (a_l_word : PySem.W.nsIn K mainGlobals "_law_word" = some (some (.ref q16)))
    (l_l_word : K.lookup q16 = some ⟨oc16, od16, .func (PySem.W.fnOf "_law_word" "_law_word" (defArgs s_l_word) (defBody s_l_word) (defScope s_l_word) .none kV16 dc16 pm16 an16 cd16 ct16), sl16⟩)
    (c_l_word : PySem.W.codeIn K cd16 "_law_word" = true)
    (k_l_word : PySem.W.keepIn K (.ref q16) = true)
    (a_bar_of_wish : PySem.W.nsIn K mainGlobals "bar_of_wish" = some (some (.ref q17)))
    (l_bar_of_wish : K.lookup q17 = some ⟨oc17, od17, .func (PySem.W.fnOf "bar_of_wish" "bar_of_wish" (defArgs s_bar_of_wish) (defBody s_bar_of_wish) (defScope s_bar_of_wish) .none kV17 dc17 pm17 an17 cd17 ct17), sl17⟩)
    (c_bar_of_wish : PySem.W.codeIn K cd17 "bar_of_wish" = true)
    (k_bar_of_wish : PySem.W.keepIn K (.ref q17) = true)
    (a_shifts : PySem.W.nsIn K mainGlobals "shifts" = some (some (.ref q18)))
    (l_shifts : K.lookup q18 = some ⟨oc18, od18, .func (PySem.W.fnOf "shifts" "shifts" (defArgs s_shifts) (defBody s_shifts) (defScope s_shifts) .none kV18 dc18 pm18 an18 cd18 ct18), sl18⟩)
    (c_shifts : PySem.W.codeIn K cd18 "shifts" = true)
    (k_shifts : PySem.W.keepIn K (.ref q18) = true)
    (a_Store_init : PySem.W.findIn K (.ref C_Store) "__init__" = some (some (.ref q19)))
    (i_Store_init : PySem.W.isFn K (.ref q19) = true)
    (l_Store_init : K.lookup q19 = some ⟨oc19, od19, .func (PySem.W.fnOf "__init__" "Store.__init__" (defArgs s_Store_init) (defBody s_Store_init) (defScope s_Store_init) .none kV19 dc19 pm19 an19 cd19 ct19), sl19⟩)
    (c_Store_init : PySem.W.codeIn K cd19 "Store.__init__" = true)
    (k_Store_init : PySem.W.keepIn K (.ref q19) = true)
    (a_l_wish : PySem.W.nsIn K mainGlobals "_law_wish" = some (some (.ref q20)))
    (l_l_wish : K.lookup q20 = some ⟨oc20, od20, .func (PySem.W.fnOf "_law_wish" "_law_wish" (defArgs s_l_wish) (defBody s_l_wish) (defScope s_l_wish) .none kV20 dc20 pm20 an20 cd20 ct20), sl20⟩)
    (c_l_wish : PySem.W.codeIn K cd20 "_law_wish" = true)
    (k_l_wish : PySem.W.keepIn K (.ref q20) = true)
    (a_l_bar_of_wish : PySem.W.nsIn K mainGlobals "_law_bar_of_wish" = some (some (.ref q21)))
    (l_l_bar_of_wish : K.lookup q21 = some ⟨oc21, od21, .func (PySem.W.fnOf "_law_bar_of_wish" "_law_bar_of_wish" (defArgs s_l_bar_of_wish) (defBody s_l_bar_of_wish) (defScope s_l_bar_of_wish) .none kV21 dc21 pm21 an21 cd21 ct21), sl21⟩)
    (c_l_bar_of_wish : PySem.W.codeIn K cd21 "_law_bar_of_wish" = true)
    (k_l_bar_of_wish : PySem.W.keepIn K (.ref q21) = true)
    (a_l_none : PySem.W.nsIn K mainGlobals "_law_none" = some (some (.ref q22)))
    (l_l_none : K.lookup q22 = some ⟨oc22, od22, .func (PySem.W.fnOf "_law_none" "_law_none" (defArgs s_l_none) (defBody s_l_none) (defScope s_l_none) .none kV22 dc22 pm22 an22 cd22 ct22), sl22⟩)
    (c_l_none : PySem.W.codeIn K cd22 "_law_none" = true)
    (k_l_none : PySem.W.keepIn K (.ref q22) = true)
    (a_bar_of : PySem.W.nsIn K mainGlobals "bar_of" = some (some (.ref q23)))
    (l_bar_of : K.lookup q23 = some ⟨oc23, od23, .func (PySem.W.fnOf "bar_of" "bar_of" (defArgs s_bar_of) (defBody s_bar_of) (defScope s_bar_of) .none kV23 dc23 pm23 an23 cd23 ct23), sl23⟩)
    (c_bar_of : PySem.W.codeIn K cd23 "bar_of" = true)
    (k_bar_of : PySem.W.keepIn K (.ref q23) = true)
    (a_l_store : PySem.W.nsIn K mainGlobals "_law_store" = some (some (.ref q24)))
    (l_l_store : K.lookup q24 = some ⟨oc24, od24, .func (PySem.W.fnOf "_law_store" "_law_store" (defArgs s_l_store) (defBody s_l_store) (defScope s_l_store) .none kV24 dc24 pm24 an24 cd24 ct24), sl24⟩)
    (c_l_store : PySem.W.codeIn K cd24 "_law_store" = true)
    (k_l_store : PySem.W.keepIn K (.ref q24) = true)
    (a_l_bar : PySem.W.nsIn K mainGlobals "_law_bar" = some (some (.ref q25)))
    (l_l_bar : K.lookup q25 = some ⟨oc25, od25, .func (PySem.W.fnOf "_law_bar" "_law_bar" (defArgs s_l_bar) (defBody s_l_bar) (defScope s_l_bar) .none kV25 dc25 pm25 an25 cd25 ct25), sl25⟩)
    (c_l_bar : PySem.W.codeIn K cd25 "_law_bar" = true)
    (k_l_bar : PySem.W.keepIn K (.ref q25) = true)
    (a_barred : PySem.W.nsIn K mainGlobals "barred" = some (some (.ref q26)))
    (l_barred : K.lookup q26 = some ⟨oc26, od26, .func (PySem.W.fnOf "barred" "barred" (defArgs s_barred) (defBody s_barred) (defScope s_barred) .none kV26 dc26 pm26 an26 cd26 ct26), sl26⟩)
    (c_barred : PySem.W.codeIn K cd26 "barred" = true)
    (k_barred : PySem.W.keepIn K (.ref q26) = true)
    (a_gone : PySem.W.nsIn K mainGlobals "gone" = some (some (.ref q27)))
    (l_gone : K.lookup q27 = some ⟨oc27, od27, .func (PySem.W.fnOf "gone" "gone" (defArgs s_gone) (defBody s_gone) (defScope s_gone) .none kV27 dc27 pm27 an27 cd27 ct27), sl27⟩)
    (c_gone : PySem.W.codeIn K cd27 "gone" = true)
    (k_gone : PySem.W.keepIn K (.ref q27) = true)
    (a_l_made : PySem.W.nsIn K mainGlobals "_law_made" = some (some (.ref q28)))
    (l_l_made : K.lookup q28 = some ⟨oc28, od28, .func (PySem.W.fnOf "_law_made" "_law_made" (defArgs s_l_made) (defBody s_l_made) (defScope s_l_made) .none kV28 dc28 pm28 an28 cd28 ct28), sl28⟩)
    (c_l_made : PySem.W.codeIn K cd28 "_law_made" = true)
    (k_l_made : PySem.W.keepIn K (.ref q28) = true)
    (a_l_steps : PySem.W.nsIn K mainGlobals "_law_steps" = some (some (.ref q29)))
    (l_l_steps : K.lookup q29 = some ⟨oc29, od29, .func (PySem.W.fnOf "_law_steps" "_law_steps" (defArgs s_l_steps) (defBody s_l_steps) (defScope s_l_steps) .none kV29 dc29 pm29 an29 cd29 ct29), sl29⟩)
    (c_l_steps : PySem.W.codeIn K cd29 "_law_steps" = true)
    (k_l_steps : PySem.W.keepIn K (.ref q29) = true)
    (a_l_due : PySem.W.nsIn K mainGlobals "_law_due" = some (some (.ref q30)))
    (l_l_due : K.lookup q30 = some ⟨oc30, od30, .func (PySem.W.fnOf "_law_due" "_law_due" (defArgs s_l_due) (defBody s_l_due) (defScope s_l_due) .none kV30 dc30 pm30 an30 cd30 ct30), sl30⟩)
    (c_l_due : PySem.W.codeIn K cd30 "_law_due" = true)
    (k_l_due : PySem.W.keepIn K (.ref q30) = true)
    (a_played : PySem.W.nsIn K mainGlobals "played" = some (some (.ref q31)))
    (l_played : K.lookup q31 = some ⟨oc31, od31, .func (PySem.W.fnOf "played" "played" (defArgs s_played) (defBody s_played) (defScope s_played) .none kV31 dc31 pm31 an31 cd31 ct31), sl31⟩)
    (c_played : PySem.W.codeIn K cd31 "played" = true)
    (k_played : PySem.W.keepIn K (.ref q31) = true)
    (a_law : PySem.W.nsIn K mainGlobals "law" = some (some (.ref q32)))
    (l_law : K.lookup q32 = some ⟨oc32, od32, .func (PySem.W.fnOf "law" "law" (defArgs s_law) (defBody s_law) (defScope s_law) .none kV32 dc32 pm32 an32 (.ref cP) ct32), sl32⟩)
    (c_law : PySem.W.codeIn K (.ref cP) "law" = true)
    (w_code : K.lookup cP = some ⟨.type "code", wdd, .fields wvs, wsl⟩)
    (w_v11 : wvs[11]? = some (.ref PT))
    (w_g11 : wvs.getD 11 .none = .ref PT)
    (w_g18 : wvs.getD 18 .none = .str wfile wtf)
    (w_g7 : wvs.getD 7 .none = .int wflags wtg)
    (w_g9 : wvs.getD 9 .none = .bool winF)
    (w_g10 : wvs.getD 10 .none = .int wtext wtt)
    (w_tab : K.lookup PT = none)
    (w_ne : (cP == PT) = false)
    (k_law : PySem.W.keepIn K (.ref q32) = true)
    (n_aisle : PySem.W.findIn K (.ref C_Store) "aisle" = some none)
    (n_kept_shelves : PySem.W.findIn K (.ref C_Store) "kept_shelves" = some none)
    (n_kept_wishes : PySem.W.findIn K (.ref C_Store) "kept_wishes" = some none)
    (z_ValueError : PySem.W.nsIn K mainGlobals "ValueError" = some none)
    (z_int : PySem.W.nsIn K mainGlobals "int" = some none)
    (z_isinstance : PySem.W.nsIn K mainGlobals "isinstance" = some none)
    (z_len : PySem.W.nsIn K mainGlobals "len" = some none)
    (z_list : PySem.W.nsIn K mainGlobals "list" = some none)
    (z_max : PySem.W.nsIn K mainGlobals "max" = some none)
    (z_min : PySem.W.nsIn K mainGlobals "min" = some none)
    (z_range : PySem.W.nsIn K mainGlobals "range" = some none)
    (z_set : PySem.W.nsIn K mainGlobals "set" = some none)
    (z_sorted : PySem.W.nsIn K mainGlobals "sorted" = some none)
    (z_sum : PySem.W.nsIn K mainGlobals "sum" = some none)
    (z_tuple : PySem.W.nsIn K mainGlobals "tuple" = some none)
    (e0_BadStore : PySem.W.nsIn K mainGlobals "BadStore" = some (some (.ref E_BadStore)))
    (e0_BadStep : PySem.W.nsIn K mainGlobals "BadStep" = some (some (.ref E_BadStep)))
    (e0_Barred : PySem.W.nsIn K mainGlobals "Barred" = some (some (.ref E_Barred)))
    (e0_BadText : PySem.W.nsIn K mainGlobals "BadText" = some (some (.ref E_BadText)))
    (e0_AisleError : PySem.W.nsIn K mainGlobals "AisleError" = some (some (.ref E_AisleError)))
    (eg : PySem.W.specialIn K (.builtin "object.__class__") "__get__" = some (some (.builtin "getset_descriptor.__get__")))
    (et : PySem.W.takesIn K (.builtin "object.__class__") = some true)
    (ea1 : PySem.W.specialIn K (.ref E_AisleError) "__getattribute__" = some (some (.builtin "type.__getattribute__")))
    (ea2 : PySem.W.typeIn K (.ref E_AisleError) = some (.type "type"))
    (ea3 : PySem.W.readsIn K E_AisleError (.type "type") = true)
    (ea4 : PySem.W.findCls K (.ref E_AisleError) (.type "type") "__init__" = some (.val (.builtin "ValueError.__init__")))
    (ea5 : PySem.W.subIn K (.ref E_AisleError) (.type "BaseException") = some true)
    (ea6 : PySem.W.hasDictIn K E_AisleError = true)
    (ex1_BadStore : PySem.W.findIn K (.ref E_BadStore) "__getattribute__" = some (some (.builtin "BaseException.__getattribute__")))
    (ex2_BadStore : PySem.W.findIn K (.ref E_BadStore) "__getattr__" = some none)
    (ex3_BadStore : PySem.W.subIn K (.ref E_BadStore) (.type "BaseException") = some true)
    (ex4_BadStore : PySem.W.hasDictIn K E_BadStore = true)
    (ex5_BadStore : PySem.W.findIn K (.ref E_BadStore) "__class__" = some (some (.builtin "object.__class__")))
    (ex6_BadStore : PySem.W.mroIn K E_BadStore (.type "object") = some true)
    (ex7_BadStore : PySem.W.typeIn K (.ref E_BadStore) = some (.type "type"))
    (ex8_BadStore : PySem.W.subIn K (.ref E_BadStore) (.type "ValueError") = some true)
    (ex9_BadStore : PySem.W.subIn K (.ref E_BadStore) (.ref E_AisleError) = some true)
    (exk_BadStore : PySem.W.keepIn K (.ref E_BadStore) = true)
    (en_BadStore_word : PySem.W.findIn K (.ref E_BadStore) "word" = some none)
    (en_BadStore_number : PySem.W.findIn K (.ref E_BadStore) "number" = some none)
    (en_BadStore_rule : PySem.W.findIn K (.ref E_BadStore) "rule" = some none)
    (en_BadStore_at : PySem.W.findIn K (.ref E_BadStore) "at" = some none)
    (en_BadStore_row : PySem.W.findIn K (.ref E_BadStore) "row" = some none)
    (es_BadStore_BadStep : PySem.W.subIn K (.ref E_BadStore) (.ref E_BadStep) = some false)
    (es_BadStore_Barred : PySem.W.subIn K (.ref E_BadStore) (.ref E_Barred) = some false)
    (es_BadStore_BadText : PySem.W.subIn K (.ref E_BadStore) (.ref E_BadText) = some false)
    (ex1_BadStep : PySem.W.findIn K (.ref E_BadStep) "__getattribute__" = some (some (.builtin "BaseException.__getattribute__")))
    (ex2_BadStep : PySem.W.findIn K (.ref E_BadStep) "__getattr__" = some none)
    (ex3_BadStep : PySem.W.subIn K (.ref E_BadStep) (.type "BaseException") = some true)
    (ex4_BadStep : PySem.W.hasDictIn K E_BadStep = true)
    (ex5_BadStep : PySem.W.findIn K (.ref E_BadStep) "__class__" = some (some (.builtin "object.__class__")))
    (ex6_BadStep : PySem.W.mroIn K E_BadStep (.type "object") = some true)
    (ex7_BadStep : PySem.W.typeIn K (.ref E_BadStep) = some (.type "type"))
    (ex8_BadStep : PySem.W.subIn K (.ref E_BadStep) (.type "ValueError") = some true)
    (ex9_BadStep : PySem.W.subIn K (.ref E_BadStep) (.ref E_AisleError) = some true)
    (exk_BadStep : PySem.W.keepIn K (.ref E_BadStep) = true)
    (en_BadStep_word : PySem.W.findIn K (.ref E_BadStep) "word" = some none)
    (en_BadStep_number : PySem.W.findIn K (.ref E_BadStep) "number" = some none)
    (en_BadStep_rule : PySem.W.findIn K (.ref E_BadStep) "rule" = some none)
    (en_BadStep_at : PySem.W.findIn K (.ref E_BadStep) "at" = some none)
    (en_BadStep_row : PySem.W.findIn K (.ref E_BadStep) "row" = some none)
    (es_BadStep_BadStore : PySem.W.subIn K (.ref E_BadStep) (.ref E_BadStore) = some false)
    (es_BadStep_Barred : PySem.W.subIn K (.ref E_BadStep) (.ref E_Barred) = some false)
    (es_BadStep_BadText : PySem.W.subIn K (.ref E_BadStep) (.ref E_BadText) = some false)
    (ex1_Barred : PySem.W.findIn K (.ref E_Barred) "__getattribute__" = some (some (.builtin "BaseException.__getattribute__")))
    (ex2_Barred : PySem.W.findIn K (.ref E_Barred) "__getattr__" = some none)
    (ex3_Barred : PySem.W.subIn K (.ref E_Barred) (.type "BaseException") = some true)
    (ex4_Barred : PySem.W.hasDictIn K E_Barred = true)
    (ex5_Barred : PySem.W.findIn K (.ref E_Barred) "__class__" = some (some (.builtin "object.__class__")))
    (ex6_Barred : PySem.W.mroIn K E_Barred (.type "object") = some true)
    (ex7_Barred : PySem.W.typeIn K (.ref E_Barred) = some (.type "type"))
    (ex8_Barred : PySem.W.subIn K (.ref E_Barred) (.type "ValueError") = some true)
    (ex9_Barred : PySem.W.subIn K (.ref E_Barred) (.ref E_AisleError) = some true)
    (exk_Barred : PySem.W.keepIn K (.ref E_Barred) = true)
    (en_Barred_word : PySem.W.findIn K (.ref E_Barred) "word" = some none)
    (en_Barred_number : PySem.W.findIn K (.ref E_Barred) "number" = some none)
    (en_Barred_rule : PySem.W.findIn K (.ref E_Barred) "rule" = some none)
    (en_Barred_at : PySem.W.findIn K (.ref E_Barred) "at" = some none)
    (en_Barred_row : PySem.W.findIn K (.ref E_Barred) "row" = some none)
    (es_Barred_BadStore : PySem.W.subIn K (.ref E_Barred) (.ref E_BadStore) = some false)
    (es_Barred_BadStep : PySem.W.subIn K (.ref E_Barred) (.ref E_BadStep) = some false)
    (es_Barred_BadText : PySem.W.subIn K (.ref E_Barred) (.ref E_BadText) = some false)
    (ex1_BadText : PySem.W.findIn K (.ref E_BadText) "__getattribute__" = some (some (.builtin "BaseException.__getattribute__")))
    (ex2_BadText : PySem.W.findIn K (.ref E_BadText) "__getattr__" = some none)
    (ex3_BadText : PySem.W.subIn K (.ref E_BadText) (.type "BaseException") = some true)
    (ex4_BadText : PySem.W.hasDictIn K E_BadText = true)
    (ex5_BadText : PySem.W.findIn K (.ref E_BadText) "__class__" = some (some (.builtin "object.__class__")))
    (ex6_BadText : PySem.W.mroIn K E_BadText (.type "object") = some true)
    (ex7_BadText : PySem.W.typeIn K (.ref E_BadText) = some (.type "type"))
    (ex8_BadText : PySem.W.subIn K (.ref E_BadText) (.type "ValueError") = some true)
    (ex9_BadText : PySem.W.subIn K (.ref E_BadText) (.ref E_AisleError) = some true)
    (exk_BadText : PySem.W.keepIn K (.ref E_BadText) = true)
    (en_BadText_word : PySem.W.findIn K (.ref E_BadText) "word" = some none)
    (en_BadText_number : PySem.W.findIn K (.ref E_BadText) "number" = some none)
    (en_BadText_rule : PySem.W.findIn K (.ref E_BadText) "rule" = some none)
    (en_BadText_at : PySem.W.findIn K (.ref E_BadText) "at" = some none)
    (en_BadText_row : PySem.W.findIn K (.ref E_BadText) "row" = some none)
    (es_BadText_BadStore : PySem.W.subIn K (.ref E_BadText) (.ref E_BadStore) = some false)
    (es_BadText_BadStep : PySem.W.subIn K (.ref E_BadText) (.ref E_BadStep) = some false)
    (es_BadText_Barred : PySem.W.subIn K (.ref E_BadText) (.ref E_Barred) = some false)
    (ed_BadStore_BadStep : (E_BadStore == E_BadStep) = false)
    (ed_BadStore_Barred : (E_BadStore == E_Barred) = false)
    (ed_BadStore_BadText : (E_BadStore == E_BadText) = false)
    (ed_BadStep_Barred : (E_BadStep == E_Barred) = false)
    (ed_BadStep_BadText : (E_BadStep == E_BadText) = false)
    (ed_Barred_BadText : (E_Barred == E_BadText) = false)
    (eo_BadStep : PySem.W.excIn K E_BadStep PySem.HandSPX.veTail "ValueError.__new__" = true)
    (ec_Barred : K.lookup E_Barred = some (excClassObj nmBarred qBarred E_Barred NBarred bsBarred bmBarred true snBarred subBarred abBarred colBarred ddBarred k0Barred k1Barred k2Barred k3Barred k5Barred "ValueError.__new__"))
    (ev_Barred : PySem.HandSPX.refsVE bmBarred = true)
    (ew_Barred : PySem.W.findIn K (.ref E_Barred) "__setattr__" = some (some (.builtin "object.__setattr__")))
    (ei_Barred : PySem.W.findIn K (.ref E_Barred) "__init__" = some (some (.ref I_Barred)))
    (ej_Barred : PySem.W.typeIn K (.ref I_Barred) = some (.type "function"))
    (el_Barred : K.lookup I_Barred = some ⟨ocBarred, odBarred, .func (PySem.W.fnOf "__init__" "Barred.__init__" (defArgs s_Barred_init) (defBody s_Barred_init) (defScope s_Barred_init) .none kVBarred dcBarred pmBarred anBarred cdBarred ctBarred), slBarred⟩)
    (em_Barred : PySem.W.codeIn K cdBarred "Barred.__init__" = true)
    (eq_Barred : PySem.W.keepIn K (.ref I_Barred) = true)
    (g_KINDS : PySem.W.nsIn K mainGlobals "KINDS" = some (some (.ref aKINDS)))
    (h_KINDS : K.lookup aKINDS = some ⟨.type "tuple", dKINDS, .seq #[.str "fetch" tKINDS0, .str "bring" tKINDS1] nKINDS, sKINDS⟩)
    (g_MOST_KEEP : PySem.W.nsIn K mainGlobals "MOST_KEEP" = some (some (.int 3 tMOST_KEEP)))
    (g_MOST_ROOM : PySem.W.nsIn K mainGlobals "MOST_ROOM" = some (some (.int 9 tMOST_ROOM)))
    (g_MOST_SHELVES : PySem.W.nsIn K mainGlobals "MOST_SHELVES" = some (some (.int 5 tMOST_SHELVES)))
    (g_MOST_WISHES : PySem.W.nsIn K mainGlobals "MOST_WISHES" = some (some (.int 5 tMOST_WISHES)))
    (g_SIDES : PySem.W.nsIn K mainGlobals "SIDES" = some (some (.ref aSIDES)))
    (h_SIDES : K.lookup aSIDES = some ⟨.type "tuple", dSIDES, .seq #[.str "left" tSIDES0, .str "right" tSIDES1, .str "any" tSIDES2] nSIDES, sSIDES⟩)
    (g_WAIT : PySem.W.nsIn K mainGlobals "WAIT" = some (some (.ref aWAIT)))
    (h_WAIT : K.lookup aWAIT = some ⟨.type "tuple", dWAIT, .seq #[.str "wait" tWAIT0] nWAIT, sWAIT⟩)
    (own : LamX.OwnTab K fa h)
    : LamX.LawAtS l w K (L2.CX l.prog w) 8 63 "_law_script" mg fa h := by
  have e := hfa.symm.trans (PySem.W.mg_of X G a_law)
  cases e
  have cl_Store : Cls K C_Store := ⟨pg_Store, hd_Store, po_Store, sa_Store⟩
  have EF_BadStore : ExF K ⟨C_Store, C_Store, E_BadStore, E_BadStep, E_Barred, E_BadText, E_AisleError, fun k => NestedKey.hash w k⟩ E_BadStore := ⟨⟨ex1_BadStore, ex2_BadStore, ex3_BadStore, ex4_BadStore, ex5_BadStore, eg, et, ex6_BadStore⟩, ⟨ex1_BadStore, ex2_BadStore, ex3_BadStore, ex4_BadStore⟩, ex7_BadStore, ex8_BadStore, ex9_BadStore, nof5 en_BadStore_word en_BadStore_number en_BadStore_rule en_BadStore_at en_BadStore_row⟩
  have EF_BadStep : ExF K ⟨C_Store, C_Store, E_BadStore, E_BadStep, E_Barred, E_BadText, E_AisleError, fun k => NestedKey.hash w k⟩ E_BadStep := ⟨⟨ex1_BadStep, ex2_BadStep, ex3_BadStep, ex4_BadStep, ex5_BadStep, eg, et, ex6_BadStep⟩, ⟨ex1_BadStep, ex2_BadStep, ex3_BadStep, ex4_BadStep⟩, ex7_BadStep, ex8_BadStep, ex9_BadStep, nof5 en_BadStep_word en_BadStep_number en_BadStep_rule en_BadStep_at en_BadStep_row⟩
  have EF_Barred : ExF K ⟨C_Store, C_Store, E_BadStore, E_BadStep, E_Barred, E_BadText, E_AisleError, fun k => NestedKey.hash w k⟩ E_Barred := ⟨⟨ex1_Barred, ex2_Barred, ex3_Barred, ex4_Barred, ex5_Barred, eg, et, ex6_Barred⟩, ⟨ex1_Barred, ex2_Barred, ex3_Barred, ex4_Barred⟩, ex7_Barred, ex8_Barred, ex9_Barred, nof5 en_Barred_word en_Barred_number en_Barred_rule en_Barred_at en_Barred_row⟩
  have EF_BadText : ExF K ⟨C_Store, C_Store, E_BadStore, E_BadStep, E_Barred, E_BadText, E_AisleError, fun k => NestedKey.hash w k⟩ E_BadText := ⟨⟨ex1_BadText, ex2_BadText, ex3_BadText, ex4_BadText, ex5_BadText, eg, et, ex6_BadText⟩, ⟨ex1_BadText, ex2_BadText, ex3_BadText, ex4_BadText⟩, ex7_BadText, ex8_BadText, ex9_BadText, nof5 en_BadText_word en_BadText_number en_BadText_rule en_BadText_at en_BadText_row⟩
  have ES : ExS K ⟨C_Store, C_Store, E_BadStore, E_BadStep, E_Barred, E_BadText, E_AisleError, fun k => NestedKey.hash w k⟩ := ⟨EF_BadStore, EF_BadStep, EF_Barred, EF_BadText, ⟨ne_of_beq_false ed_BadStore_BadStep, ne_of_beq_false ed_BadStore_Barred, ne_of_beq_false ed_BadStore_BadText, ne_of_beq_false ed_BadStep_Barred, ne_of_beq_false ed_BadStep_BadText, ne_of_beq_false ed_Barred_BadText⟩, es_BadStore_BadStep, es_BadStore_Barred, es_BadStore_BadText, es_BadStep_BadStore, es_BadStep_Barred, es_BadStep_BadText, es_Barred_BadStore, es_Barred_BadStep, es_Barred_BadText, es_BadText_BadStore, es_BadText_BadStep, es_BadText_Barred, ea5, ea6, ea2⟩
  have AC : AisC K E_AisleError := ⟨ea1, ea2, ea3, ea4⟩
  have T : Txt w K mg ⟨C_Store, C_Store, E_BadStore, E_BadStep, E_Barred, E_BadText, E_AisleError, fun k => NestedKey.hash w k⟩ := ⟨PySem.W.mg_none_of X G z_ValueError, PySem.W.mg_none_of X G z_int, PySem.W.mg_none_of X G z_isinstance, PySem.W.mg_none_of X G z_len, PySem.W.mg_none_of X G z_list, PySem.W.mg_none_of X G z_max, PySem.W.mg_none_of X G z_min, PySem.W.mg_none_of X G z_range, PySem.W.mg_none_of X G z_set, PySem.W.mg_none_of X G z_sorted, PySem.W.mg_none_of X G z_sum, PySem.W.mg_none_of X G z_tuple, glob_tup (vs := [.str "fetch", .str "bring"]) (PySem.W.mg_of X G g_KINDS) h_KINDS (by simp [sizeLine]) (.cons ⟨_, rfl⟩ (.cons ⟨_, rfl⟩ .nil)) (fun _ => (.cons (.str _) (.cons (.str _) .nil))), glob_int (PySem.W.mg_of X G g_MOST_KEEP), glob_int (PySem.W.mg_of X G g_MOST_ROOM), glob_int (PySem.W.mg_of X G g_MOST_SHELVES), glob_int (PySem.W.mg_of X G g_MOST_WISHES), glob_tup (vs := [.str "left", .str "right", .str "any"]) (PySem.W.mg_of X G g_SIDES) h_SIDES (by simp [sizeLine]) (.cons ⟨_, rfl⟩ (.cons ⟨_, rfl⟩ (.cons ⟨_, rfl⟩ .nil))) (fun _ => (.cons (.str _) (.cons (.str _) (.cons (.str _) .nil)))), glob_tup (vs := [.str "wait"]) (PySem.W.mg_of X G g_WAIT) h_WAIT (by simp [sizeLine]) (.cons ⟨_, rfl⟩ .nil) (fun _ => (.cons (.str _) .nil)), ⟨cl_Store, n_aisle⟩, ⟨cl_Store, n_kept_shelves⟩, ⟨cl_Store, n_kept_wishes⟩, ⟨eo_BadStep, PySem.W.mg_of X G e0_BadStep, exk_BadStep, ex3_BadStep, ex7_BadStep⟩, PySem.W.mg_of X G e0_AisleError, PySem.W.mg_of X G e0_BadStep, PySem.W.mg_of X G e0_BadStore, PySem.W.mg_of X G e0_BadText, PySem.W.mg_of X G e0_Barred, ES.kn, ES.dis⟩
  have F_begin := fun_mk (st := s_begin) l_begin c_begin k_begin
  have B_begin := F_begin.binds (ps := ["store"]) fun _ _ _ _ _ _ us hl => match us, hl with | [_], _ => rfl
  have F_need_step := fun_mk (st := s_need_step) l_need_step c_need_step k_need_step
  have B_need_step := F_need_step.binds (ps := ["store", "step"]) fun _ _ _ _ _ _ us hl => match us, hl with | [_, _], _ => rfl
  have F_bar_of_shift := fun_mk (st := s_bar_of_shift) l_bar_of_shift c_bar_of_shift k_bar_of_shift
  have B_bar_of_shift := F_bar_of_shift.binds (ps := ["store", "state", "by"]) fun _ _ _ _ _ _ us hl => match us, hl with | [_, _, _], _ => rfl
  have F_behind := fun_mk (st := s_behind) l_behind c_behind k_behind
  have B_behind := F_behind.binds (ps := ["store", "state", "step"]) fun _ _ _ _ _ _ us hl => match us, hl with | [_, _, _], _ => rfl
  have F_shifts_of := fun_mk (st := s_shifts_of) l_shifts_of c_shifts_of k_shifts_of
  have B_shifts_of := F_shifts_of.binds (ps := ["step"]) fun _ _ _ _ _ _ us hl => match us, hl with | [_], _ => rfl
  have F_is_end := fun_mk (st := s_is_end) l_is_end c_is_end k_is_end
  have B_is_end := F_is_end.binds (ps := ["store", "state"]) fun _ _ _ _ _ _ us hl => match us, hl with | [_, _], _ => rfl
  have F_must := fun_mk (st := s_must) l_must c_must k_must
  have B_must := F_must.binds (ps := ["good", "word", "number"]) fun _ _ _ _ _ _ us hl => match us, hl with | [_, _, _], _ => rfl
  have F_is_shelf := fun_mk (st := s_is_shelf) l_is_shelf c_is_shelf k_is_shelf
  have B_is_shelf := F_is_shelf.binds (ps := ["shelf"]) fun _ _ _ _ _ _ us hl => match us, hl with | [_], _ => rfl
  have F_is_wish := fun_mk (st := s_is_wish) l_is_wish c_is_wish k_is_wish
  have B_is_wish := F_is_wish.binds (ps := ["wish", "many", "shelves"]) fun _ _ _ _ _ _ us hl => match us, hl with | [_, _, _], _ => rfl
  have F_Store_goods := fun_mk (st := s_Store_goods) l_Store_goods c_Store_goods k_Store_goods
  have B_Store_goods := F_Store_goods.binds (ps := ["self", "shelf", "done"]) fun _ _ _ _ _ _ us hl => match us, hl with | [_, _, _], _ => rfl
  have F_Store_reaches := fun_mk (st := s_Store_reaches) l_Store_reaches c_Store_reaches k_Store_reaches
  have B_Store_reaches := F_Store_reaches.binds (ps := ["self", "number", "aisle"]) fun _ _ _ _ _ _ us hl => match us, hl with | [_, _, _], _ => rfl
  have F_l_taken := fun_mk (st := s_l_taken) l_l_taken c_l_taken k_l_taken
  have B_l_taken := F_l_taken.binds (ps := ["_law_row", "_law_many"]) fun _ _ _ _ _ _ us hl => match us, hl with | [_, _], _ => rfl
  have F_l_goods := fun_mk (st := s_l_goods) l_l_goods c_l_goods k_l_goods
  have B_l_goods := F_l_goods.binds (ps := ["_law_store_here", "_law_shelf", "_law_done"]) fun _ _ _ _ _ _ us hl => match us, hl with | [_, _, _], _ => rfl
  have F_l_behind := fun_mk (st := s_l_behind) l_l_behind c_l_behind k_l_behind
  have B_l_behind := F_l_behind.binds (ps := ["_law_store_here", "_law_state", "_law_step"]) fun _ _ _ _ _ _ us hl => match us, hl with | [_, _, _], _ => rfl
  have F_l_every := fun_mk (st := s_l_every) l_l_every c_l_every k_l_every
  have B_l_every := F_l_every.binds (ps := ["_law_store_here"]) fun _ _ _ _ _ _ us hl => match us, hl with | [_], _ => rfl
  have F_l_begin := fun_mk (st := s_l_begin) l_l_begin c_l_begin k_l_begin
  have B_l_begin := F_l_begin.binds (ps := ["_law_store_here"]) fun _ _ _ _ _ _ us hl => match us, hl with | [_], _ => rfl
  have F_l_word := fun_mk (st := s_l_word) l_l_word c_l_word k_l_word
  have B_l_word := F_l_word.binds (ps := ["_law_work"]) fun _ _ _ _ _ _ us hl => match us, hl with | [_], _ => rfl
  have F_bar_of_wish := fun_mk (st := s_bar_of_wish) l_bar_of_wish c_bar_of_wish k_bar_of_wish
  have B_bar_of_wish := F_bar_of_wish.binds (ps := ["store", "state", "number"]) fun _ _ _ _ _ _ us hl => match us, hl with | [_, _, _], _ => rfl
  have F_shifts := fun_mk (st := s_shifts) l_shifts c_shifts k_shifts
  have B_shifts := F_shifts.binds (ps := ["store", "plan"]) fun _ _ _ _ _ _ us hl => match us, hl with | [_, _], _ => rfl
  have F_Store_init := fun_mk (st := s_Store_init) l_Store_init c_Store_init k_Store_init
  have B_Store_init := F_Store_init.binds (ps := ["self", "shelves", "aisle", "wishes"]) fun _ _ _ _ _ _ us hl => match us, hl with | [_, _, _, _], _ => rfl
  have F_l_wish := fun_mk (st := s_l_wish) l_l_wish c_l_wish k_l_wish
  have B_l_wish := F_l_wish.binds (ps := ["_law_row", "_law_shelves", "_law_many"]) fun _ _ _ _ _ _ us hl => match us, hl with | [_, _, _], _ => rfl
  have F_l_bar_of_wish := fun_mk (st := s_l_bar_of_wish) l_l_bar_of_wish c_l_bar_of_wish k_l_bar_of_wish
  have B_l_bar_of_wish := F_l_bar_of_wish.binds (ps := ["_law_store_here", "_law_state", "_law_number"]) fun _ _ _ _ _ _ us hl => match us, hl with | [_, _, _], _ => rfl
  have F_l_none := fun_mk (st := s_l_none) l_l_none c_l_none k_l_none
  have B_l_none := F_l_none.binds (ps := ["_law_row", "_law_store_here"]) fun _ _ _ _ _ _ us hl => match us, hl with | [_, _], _ => rfl
  have F_bar_of := fun_mk (st := s_bar_of) l_bar_of c_bar_of k_bar_of
  have B_bar_of := F_bar_of.binds (ps := ["store", "state", "step"]) fun _ _ _ _ _ _ us hl => match us, hl with | [_, _, _], _ => rfl
  have F_l_store := fun_mk (st := s_l_store) l_l_store c_l_store k_l_store
  have B_l_store := F_l_store.binds (ps := ["_law_row"]) fun _ _ _ _ _ _ us hl => match us, hl with | [_], _ => rfl
  have F_l_bar := fun_mk (st := s_l_bar) l_l_bar c_l_bar k_l_bar
  have B_l_bar := F_l_bar.binds (ps := ["_law_store_here", "_law_state", "_law_step"]) fun _ _ _ _ _ _ us hl => match us, hl with | [_, _, _], _ => rfl
  have F_barred := fun_mk (st := s_barred) l_barred c_barred k_barred
  have B_barred := F_barred.binds (ps := ["store", "state", "step"]) fun _ _ _ _ _ _ us hl => match us, hl with | [_, _, _], _ => rfl
  have F_gone := fun_mk (st := s_gone) l_gone c_gone k_gone
  have B_gone := F_gone.binds (ps := ["store", "state", "plan"]) fun _ _ _ _ _ _ us hl => match us, hl with | [_, _, _], _ => rfl
  have F_l_made := fun_mk (st := s_l_made) l_l_made c_l_made k_l_made
  have B_l_made := F_l_made.binds (ps := ["_law_store_here"]) fun _ _ _ _ _ _ us hl => match us, hl with | [_], _ => rfl
  have F_l_steps := fun_mk (st := s_l_steps) l_l_steps c_l_steps k_l_steps
  have B_l_steps := F_l_steps.binds (ps := ["_law_store_here", "_law_state"]) fun _ _ _ _ _ _ us hl => match us, hl with | [_, _], _ => rfl
  have F_l_due := fun_mk (st := s_l_due) l_l_due c_l_due k_l_due
  have B_l_due := F_l_due.binds (ps := ["_law_store_here", "_law_plan"]) fun _ _ _ _ _ _ us hl => match us, hl with | [_, _], _ => rfl
  have F_played := fun_mk (st := s_played) l_played c_played k_played
  have B_played := F_played.binds (ps := ["store", "plan"]) fun _ _ _ _ _ _ us hl => match us, hl with | [_, _], _ => rfl
  have hT : h.get? PT = some { cls := .none, data := .fields #[] } := own cP PT _ _ _ _ _ _ l_law rfl rfl w_code w_v11
  have hC : PySem.W.CodeHd h cP PT := ⟨_, wvs, wfile, wtf, wflags, wtg, winF, wtext, wtt, X _ _ w_code, rfl, rfl, w_v11, w_g11, w_g18, w_g7, w_g9, w_g10, ne_of_beq_false w_ne⟩
  refine ⟨PySem.W.fnOf "law" "law" (defArgs s_law) (defBody s_law) (defScope s_law) .none kV32 dc32 pm32 an32 (.ref cP) ct32, [(cP, PT)], liftS K (sp_law ⟨C_Store, C_Store, E_BadStore, E_BadStep, E_Barred, E_BadText, E_AisleError, fun k => NestedKey.hash w k⟩ PT), fun q hq => by rw [List.mem_singleton.mp hq]; exact hT, fun q hq => by rw [List.mem_singleton.mp hq]; exact w_tab, fun q hq => by rw [List.mem_singleton.mp hq]; exact hC, fun s v => .of_eq rfl, fun H a ns _ _ hP hS => hsp_ofT (law_in _ PT) H a ns (hP (cP, PT) (List.mem_singleton.mpr rfl)) hS, fun base _ _ hTB => ?_⟩
  have TB : LamX.TabB base mg cP PT := hTB (cP, PT) (List.mem_singleton.mpr rfl)
  have F_Barred_init := fun_mk (st := s_Barred_init) el_Barred em_Barred eq_Barred
  have B_Barred_init := F_Barred_init.binds (ps := ["self", "rule", "number", "at"]) fun _ _ _ _ _ _ us hl => match us, hl with | [_, _, _, _], _ => rfl
  have G_Barred : Rd l.prog w K mg base 1 "Barred" E_Barred ["rule", "number", "at"] := ⟨⟨_, _, _, ⟨⟨_, _, _, _, _, _, _, _, _, _, _, _, _, _, _, ec_Barred, ev_Barred⟩, ew_Barred, ex3_Barred, ex7_Barred, exk_Barred⟩, ei_Barred, ej_Barred, ok_Barred_init F_Barred_init AC (PySem.W.mg_of X G e0_AisleError) en_Barred_rule en_Barred_number en_Barred_at, PySem.W.mg_of X G e0_Barred, B_Barred_init⟩⟩
  have G_begin : Cd l.prog w K mg base 1 "begin" (sp_begin ⟨C_Store, C_Store, E_BadStore, E_BadStep, E_Barred, E_BadText, E_AisleError, fun k => NestedKey.hash w k⟩) := cd_of F_begin (PySem.W.mg_of X G a_begin) B_begin (ok_begin F_begin T )
  have G_need_step : Cd l.prog w K mg base 1 "need_step" (sp_need_step ⟨C_Store, C_Store, E_BadStore, E_BadStep, E_Barred, E_BadText, E_AisleError, fun k => NestedKey.hash w k⟩) := cd_of F_need_step (PySem.W.mg_of X G a_need_step) B_need_step (ok_need_step F_need_step T )
  have G_bar_of_shift : Cd l.prog w K mg base 1 "bar_of_shift" (sp_bar_of_shift ⟨C_Store, C_Store, E_BadStore, E_BadStep, E_Barred, E_BadText, E_AisleError, fun k => NestedKey.hash w k⟩) := cd_of F_bar_of_shift (PySem.W.mg_of X G a_bar_of_shift) B_bar_of_shift (ok_bar_of_shift F_bar_of_shift T )
  have G_behind : Cd l.prog w K mg base 1 "behind" (sp_behind ⟨C_Store, C_Store, E_BadStore, E_BadStep, E_Barred, E_BadText, E_AisleError, fun k => NestedKey.hash w k⟩) := cd_of F_behind (PySem.W.mg_of X G a_behind) B_behind (ok_behind F_behind T )
  have G_shifts_of : Cd l.prog w K mg base 1 "shifts_of" (sp_shifts_of ⟨C_Store, C_Store, E_BadStore, E_BadStep, E_Barred, E_BadText, E_AisleError, fun k => NestedKey.hash w k⟩) := cd_of F_shifts_of (PySem.W.mg_of X G a_shifts_of) B_shifts_of (ok_shifts_of F_shifts_of T )
  have G_is_end : Cd l.prog w K mg base 1 "is_end" (sp_is_end ⟨C_Store, C_Store, E_BadStore, E_BadStep, E_Barred, E_BadText, E_AisleError, fun k => NestedKey.hash w k⟩) := cd_of F_is_end (PySem.W.mg_of X G a_is_end) B_is_end (ok_is_end F_is_end T )
  have G_must : Cd l.prog w K mg base 1 "must" (sp_must ⟨C_Store, C_Store, E_BadStore, E_BadStep, E_Barred, E_BadText, E_AisleError, fun k => NestedKey.hash w k⟩) := cd_of F_must (PySem.W.mg_of X G a_must) B_must (ok_must F_must T )
  have G_is_shelf : Cd l.prog w K mg base 1 "is_shelf" (sp_is_shelf ⟨C_Store, C_Store, E_BadStore, E_BadStep, E_Barred, E_BadText, E_AisleError, fun k => NestedKey.hash w k⟩) := cd_of F_is_shelf (PySem.W.mg_of X G a_is_shelf) B_is_shelf (ok_is_shelf F_is_shelf T )
  have G_is_wish : Cd l.prog w K mg base 1 "is_wish" (sp_is_wish ⟨C_Store, C_Store, E_BadStore, E_BadStep, E_Barred, E_BadText, E_AisleError, fun k => NestedKey.hash w k⟩) := cd_of F_is_wish (PySem.W.mg_of X G a_is_wish) B_is_wish (ok_is_wish F_is_wish T )
  have G_Store_goods : Md l.prog w K mg base 1 C_Store "goods" (sp_Store_goods ⟨C_Store, C_Store, E_BadStore, E_BadStep, E_Barred, E_BadText, E_AisleError, fun k => NestedKey.hash w k⟩) := ⟨⟨_, _, _, cl_Store, ⟨a_Store_goods, i_Store_goods, k_Store_goods⟩, ok_Store_goods F_Store_goods T , B_Store_goods⟩⟩
  have G_Store_reaches : Md l.prog w K mg base 1 C_Store "reaches" (sp_Store_reaches ⟨C_Store, C_Store, E_BadStore, E_BadStep, E_Barred, E_BadText, E_AisleError, fun k => NestedKey.hash w k⟩) := ⟨⟨_, _, _, cl_Store, ⟨a_Store_reaches, i_Store_reaches, k_Store_reaches⟩, ok_Store_reaches F_Store_reaches T , B_Store_reaches⟩⟩
  have G_l_taken : Cd l.prog w K mg base 1 "_law_taken" (sp_l_taken ⟨C_Store, C_Store, E_BadStore, E_BadStep, E_Barred, E_BadText, E_AisleError, fun k => NestedKey.hash w k⟩) := cd_of F_l_taken (PySem.W.mg_of X G a_l_taken) B_l_taken (ok_l_taken F_l_taken T )
  have G_l_goods : Cd l.prog w K mg base 1 "_law_goods" (sp_l_goods ⟨C_Store, C_Store, E_BadStore, E_BadStep, E_Barred, E_BadText, E_AisleError, fun k => NestedKey.hash w k⟩) := cd_of F_l_goods (PySem.W.mg_of X G a_l_goods) B_l_goods (ok_l_goods F_l_goods T )
  have G_l_behind : Cd l.prog w K mg base 1 "_law_behind" (sp_l_behind ⟨C_Store, C_Store, E_BadStore, E_BadStep, E_Barred, E_BadText, E_AisleError, fun k => NestedKey.hash w k⟩) := cd_of F_l_behind (PySem.W.mg_of X G a_l_behind) B_l_behind (ok_l_behind F_l_behind T )
  have G_l_every : Cd l.prog w K mg base 1 "_law_every" (sp_l_every ⟨C_Store, C_Store, E_BadStore, E_BadStep, E_Barred, E_BadText, E_AisleError, fun k => NestedKey.hash w k⟩) := cd_of F_l_every (PySem.W.mg_of X G a_l_every) B_l_every (ok_l_every F_l_every T )
  have G_l_begin : Cd l.prog w K mg base 1 "_law_begin" (sp_l_begin ⟨C_Store, C_Store, E_BadStore, E_BadStep, E_Barred, E_BadText, E_AisleError, fun k => NestedKey.hash w k⟩) := cd_of F_l_begin (PySem.W.mg_of X G a_l_begin) B_l_begin (ok_l_begin F_l_begin T )
  have WD : WordD l.prog w K mg base ⟨C_Store, C_Store, E_BadStore, E_BadStep, E_Barred, E_BadText, E_AisleError, fun k => NestedKey.hash w k⟩ (CC.known ⟨C_Store, C_Store, E_BadStore, E_BadStep, E_Barred, E_BadText, E_AisleError, fun k => NestedKey.hash w k⟩) (CC.ais ⟨C_Store, C_Store, E_BadStore, E_BadStep, E_Barred, E_BadText, E_AisleError, fun k => NestedKey.hash w k⟩) 5 "_law_word" 1 2 (tsu_l_word ⟨C_Store, C_Store, E_BadStore, E_BadStep, E_Barred, E_BadText, E_AisleError, fun k => NestedKey.hash w k⟩) (tre_l_word ⟨C_Store, C_Store, E_BadStore, E_BadStep, E_Barred, E_BadText, E_AisleError, fun k => NestedKey.hash w k⟩) := wd_l_word F_l_word T (PySem.W.mg_of X G a_l_word) B_l_word 5
  have G_bar_of_wish : Cd l.prog w K mg base 2 "bar_of_wish" (sp_bar_of_wish ⟨C_Store, C_Store, E_BadStore, E_BadStep, E_Barred, E_BadText, E_AisleError, fun k => NestedKey.hash w k⟩) := cd_of F_bar_of_wish (PySem.W.mg_of X G a_bar_of_wish) B_bar_of_wish (ok_bar_of_wish F_bar_of_wish T G_Store_goods G_Store_reaches)
  have G_shifts : Cd l.prog w K mg base 2 "shifts" (sp_shifts ⟨C_Store, C_Store, E_BadStore, E_BadStep, E_Barred, E_BadText, E_AisleError, fun k => NestedKey.hash w k⟩) := cd_of F_shifts (PySem.W.mg_of X G a_shifts) B_shifts (ok_shifts F_shifts T G_need_step G_shifts_of)
  have G_Store : Kd l.prog w K mg base 2 "Store" C_Store (sp_Store_init ⟨C_Store, C_Store, E_BadStore, E_BadStep, E_Barred, E_BadText, E_AisleError, fun k => NestedKey.hash w k⟩) := ⟨⟨_, _, _, ⟨mk_Store, a_Store_init, i_Store_init, kc_Store⟩, ok_Store_init F_Store_init T G_is_shelf G_is_wish G_must, PySem.W.mg_of X G aC_Store, B_Store_init⟩⟩
  have G_l_wish : Cd l.prog w K mg base 2 "_law_wish" (sp_l_wish ⟨C_Store, C_Store, E_BadStore, E_BadStep, E_Barred, E_BadText, E_AisleError, fun k => NestedKey.hash w k⟩) := cd_of F_l_wish (PySem.W.mg_of X G a_l_wish) B_l_wish (ok_l_wish F_l_wish T G_l_taken)
  have G_l_bar_of_wish : Cd l.prog w K mg base 2 "_law_bar_of_wish" (sp_l_bar_of_wish ⟨C_Store, C_Store, E_BadStore, E_BadStep, E_Barred, E_BadText, E_AisleError, fun k => NestedKey.hash w k⟩) := cd_of F_l_bar_of_wish (PySem.W.mg_of X G a_l_bar_of_wish) B_l_bar_of_wish (ok_l_bar_of_wish F_l_bar_of_wish T G_l_goods)
  have G_l_none : Cd l.prog w K mg base 2 "_law_none" (sp_l_none ⟨C_Store, C_Store, E_BadStore, E_BadStep, E_Barred, E_BadText, E_AisleError, fun k => NestedKey.hash w k⟩) := cd_of F_l_none (PySem.W.mg_of X G a_l_none) B_l_none (ok_l_none F_l_none T G_l_taken)
  have G_bar_of : Cd l.prog w K mg base 3 "bar_of" (sp_bar_of ⟨C_Store, C_Store, E_BadStore, E_BadStep, E_Barred, E_BadText, E_AisleError, fun k => NestedKey.hash w k⟩) := cd_of F_bar_of (PySem.W.mg_of X G a_bar_of) B_bar_of (ok_bar_of F_bar_of T G_bar_of_shift G_bar_of_wish)
  have G_l_store : Cd l.prog w K mg base 3 "_law_store" (sp_l_store ⟨C_Store, C_Store, E_BadStore, E_BadStep, E_Barred, E_BadText, E_AisleError, fun k => NestedKey.hash w k⟩) := cd_of F_l_store (PySem.W.mg_of X G a_l_store) B_l_store (ok_l_store F_l_store T G_l_taken G_l_wish)
  have G_l_bar : Cd l.prog w K mg base 3 "_law_bar" (sp_l_bar ⟨C_Store, C_Store, E_BadStore, E_BadStep, E_Barred, E_BadText, E_AisleError, fun k => NestedKey.hash w k⟩) := cd_of F_l_bar (PySem.W.mg_of X G a_l_bar) B_l_bar (ok_l_bar F_l_bar T G_l_bar_of_wish)
  have G_barred : Cd l.prog w K mg base 4 "barred" (sp_barred ⟨C_Store, C_Store, E_BadStore, E_BadStep, E_Barred, E_BadText, E_AisleError, fun k => NestedKey.hash w k⟩) := cd_of F_barred (PySem.W.mg_of X G a_barred) B_barred (ok_barred F_barred T G_need_step G_bar_of)
  have G_gone : Cd l.prog w K mg base 4 "gone" (sp_gone ⟨C_Store, C_Store, E_BadStore, E_BadStep, E_Barred, E_BadText, E_AisleError, fun k => NestedKey.hash w k⟩) := cd_of F_gone (PySem.W.mg_of X G a_gone) B_gone (ok_gone F_gone T G_Barred G_behind G_bar_of)
  have G_l_made : Cd l.prog w K mg base 4 "_law_made" (sp_l_made ⟨C_Store, C_Store, E_BadStore, E_BadStep, E_Barred, E_BadText, E_AisleError, fun k => NestedKey.hash w k⟩) := cd_of F_l_made (PySem.W.mg_of X G a_l_made) B_l_made (ok_l_made F_l_made T G_Store)
  have G_l_steps : Cd l.prog w K mg base 4 "_law_steps" (sp_l_steps ⟨C_Store, C_Store, E_BadStore, E_BadStep, E_Barred, E_BadText, E_AisleError, fun k => NestedKey.hash w k⟩) := cd_of F_l_steps (PySem.W.mg_of X G a_l_steps) B_l_steps (ok_l_steps F_l_steps T G_l_every G_l_bar)
  have G_l_due : Cd l.prog w K mg base 4 "_law_due" (sp_l_due ⟨C_Store, C_Store, E_BadStore, E_BadStep, E_Barred, E_BadText, E_AisleError, fun k => NestedKey.hash w k⟩) := cd_of F_l_due (PySem.W.mg_of X G a_l_due) B_l_due (ok_l_due F_l_due T G_l_begin G_l_behind G_l_bar)
  have G_played : Cd l.prog w K mg base 5 "played" (sp_played ⟨C_Store, C_Store, E_BadStore, E_BadStep, E_Barred, E_BadText, E_AisleError, fun k => NestedKey.hash w k⟩) := cd_of F_played (PySem.W.mg_of X G a_played) B_played (ok_played F_played T G_begin G_need_step G_gone)
  exact ok_law l_law c_law T TB WD G_l_begin G_l_behind G_l_every G_l_taken G_is_end G_l_none G_shifts G_l_bar G_l_store G_l_due G_l_made G_l_steps G_barred G_played
theorem walk {l : PySem.W.OpenLaw} {q : Program} {loose : List Str} {XP : (Str → Option Value) → Heap → Prop} {YP : World → Heap → Prop} {d : DefRec} {K : Params → PySem.W.Frag} (hn : l.most = some 63) (hdf : d.params.defaults = [])
    (hrec : ((recsOf q).any fun e => e.name == d.name) = true) (hY : ∀ (w : World) (h : Heap), YP w h → (K w.params).In h)
    (F : ∀ (w : World) (mg : Str → Option Value) (fa : Addr) (h : Heap), (K w.params).In h → h.Ns mainGlobals mg → mg d.name = some (.ref fa) → LamX.OwnTab (K w.params) fa h → LamX.LawAtS l w (K w.params) (L2.CX l.prog w) 8 63 "_law_script" mg fa h) :
    PySem.W.WalkO q loose XP YP l.row.toRowW d [] (fun f vs => PySem.call f vs) :=
  LamX.walk_ofOwn (n := 63) (k := 8) (x := "_law_script") (CX := fun w => L2.CX l.prog w) hn (by decide) hdf ⟨by decide, by decide, by decide⟩ hrec hY (fun w mg fa h _ KX G hm own => F w mg fa h KX G hm own) fun _ _ _ _ _ z => hCX_of z
end AI.X
open PySem PySem.W PyProof.Rows
set_option maxRecDepth 100000 in
set_option maxHeartbeats 0 in
theorem PySem.Challenge.cw_aisleshift_k07_plans_played_holds : PySem.Challenge.rw_aisleshift_k07_plans_played.Holds := by
  w_on; o_law; k_head; (case hw => w_witness2)
  k_fill
  refine AI.X.walk (l := PySem.Challenge.rw_aisleshift_k07_plans_played) rfl rfl (by rfl) (fun w h Y => PySem.W.km_in_of Y) ?F
  case F =>
    intro w mg fa h KX G hmg own
    refine' AI.X.all_mk KX G hmg ?aC_Store ?pg_Store ?hd_Store ?po_Store ?sa_Store ?mk_Store ?kc_Store ?a_begin ?l_begin ?c_begin ?k_begin ?a_need_step ?l_need_step ?c_need_step ?k_need_step ?a_bar_of_shift ?l_bar_of_shift ?c_bar_of_shift ?k_bar_of_shift ?a_behind ?l_behind ?c_behind ?k_behind ?a_shifts_of ?l_shifts_of ?c_shifts_of ?k_shifts_of ?a_is_end ?l_is_end ?c_is_end ?k_is_end ?a_must ?l_must ?c_must ?k_must ?a_is_shelf ?l_is_shelf ?c_is_shelf ?k_is_shelf ?a_is_wish ?l_is_wish ?c_is_wish ?k_is_wish ?a_Store_goods ?i_Store_goods ?l_Store_goods ?c_Store_goods ?k_Store_goods ?a_Store_reaches ?i_Store_reaches ?l_Store_reaches ?c_Store_reaches ?k_Store_reaches ?a_l_taken ?l_l_taken ?c_l_taken ?k_l_taken ?a_l_goods ?l_l_goods ?c_l_goods ?k_l_goods ?a_l_behind ?l_l_behind ?c_l_behind ?k_l_behind ?a_l_every ?l_l_every ?c_l_every ?k_l_every ?a_l_begin ?l_l_begin ?c_l_begin ?k_l_begin ?a_l_word ?l_l_word ?c_l_word ?k_l_word ?a_bar_of_wish ?l_bar_of_wish ?c_bar_of_wish ?k_bar_of_wish ?a_shifts ?l_shifts ?c_shifts ?k_shifts ?a_Store_init ?i_Store_init ?l_Store_init ?c_Store_init ?k_Store_init ?a_l_wish ?l_l_wish ?c_l_wish ?k_l_wish ?a_l_bar_of_wish ?l_l_bar_of_wish ?c_l_bar_of_wish ?k_l_bar_of_wish ?a_l_none ?l_l_none ?c_l_none ?k_l_none ?a_bar_of ?l_bar_of ?c_bar_of ?k_bar_of ?a_l_store ?l_l_store ?c_l_store ?k_l_store ?a_l_bar ?l_l_bar ?c_l_bar ?k_l_bar ?a_barred ?l_barred ?c_barred ?k_barred ?a_gone ?l_gone ?c_gone ?k_gone ?a_l_made ?l_l_made ?c_l_made ?k_l_made ?a_l_steps ?l_l_steps ?c_l_steps ?k_l_steps ?a_l_due ?l_l_due ?c_l_due ?k_l_due ?a_played ?l_played ?c_played ?k_played ?a_law ?l_law ?c_law ?w_code ?w_v11 ?w_g11 ?w_g18 ?w_g7 ?w_g9 ?w_g10 ?w_tab ?w_ne ?k_law ?n_aisle ?n_kept_shelves ?n_kept_wishes ?z_ValueError ?z_int ?z_isinstance ?z_len ?z_list ?z_max ?z_min ?z_range ?z_set ?z_sorted ?z_sum ?z_tuple ?e0_BadStore ?e0_BadStep ?e0_Barred ?e0_BadText ?e0_AisleError ?eg ?et ?ea1 ?ea2 ?ea3 ?ea4 ?ea5 ?ea6 ?ex1_BadStore ?ex2_BadStore ?ex3_BadStore ?ex4_BadStore ?ex5_BadStore ?ex6_BadStore ?ex7_BadStore ?ex8_BadStore ?ex9_BadStore ?exk_BadStore ?en_BadStore_word ?en_BadStore_number ?en_BadStore_rule ?en_BadStore_at ?en_BadStore_row ?es_BadStore_BadStep ?es_BadStore_Barred ?es_BadStore_BadText ?ex1_BadStep ?ex2_BadStep ?ex3_BadStep ?ex4_BadStep ?ex5_BadStep ?ex6_BadStep ?ex7_BadStep ?ex8_BadStep ?ex9_BadStep ?exk_BadStep ?en_BadStep_word ?en_BadStep_number ?en_BadStep_rule ?en_BadStep_at ?en_BadStep_row ?es_BadStep_BadStore ?es_BadStep_Barred ?es_BadStep_BadText ?ex1_Barred ?ex2_Barred ?ex3_Barred ?ex4_Barred ?ex5_Barred ?ex6_Barred ?ex7_Barred ?ex8_Barred ?ex9_Barred ?exk_Barred ?en_Barred_word ?en_Barred_number ?en_Barred_rule ?en_Barred_at ?en_Barred_row ?es_Barred_BadStore ?es_Barred_BadStep ?es_Barred_BadText ?ex1_BadText ?ex2_BadText ?ex3_BadText ?ex4_BadText ?ex5_BadText ?ex6_BadText ?ex7_BadText ?ex8_BadText ?ex9_BadText ?exk_BadText ?en_BadText_word ?en_BadText_number ?en_BadText_rule ?en_BadText_at ?en_BadText_row ?es_BadText_BadStore ?es_BadText_BadStep ?es_BadText_Barred ?ed_BadStore_BadStep ?ed_BadStore_Barred ?ed_BadStore_BadText ?ed_BadStep_Barred ?ed_BadStep_BadText ?ed_Barred_BadText ?eo_BadStep ?ec_Barred ?ev_Barred ?ew_Barred ?ei_Barred ?ej_Barred ?el_Barred ?em_Barred ?eq_Barred ?g_KINDS ?h_KINDS ?g_MOST_KEEP ?g_MOST_ROOM ?g_MOST_SHELVES ?g_MOST_WISHES ?g_SIDES ?h_SIDES ?g_WAIT ?h_WAIT own
    (case aC_Store => k_is)
    (case pg_Store => k_is)
    (case hd_Store => k_is)
    (case po_Store => k_is)
    (case sa_Store => k_is)
    (case mk_Store => k_is)
    (case kc_Store => k_is)
    (case a_begin => k_is)
    (case l_begin => k_is)
    (case c_begin => k_is)
    (case k_begin => k_is)
    (case a_need_step => k_is)
    (case l_need_step => k_is)
    (case c_need_step => k_is)
    (case k_need_step => k_is)
    (case a_bar_of_shift => k_is)
    (case l_bar_of_shift => k_is)
    (case c_bar_of_shift => k_is)
    (case k_bar_of_shift => k_is)
    (case a_behind => k_is)
    (case l_behind => k_is)
    (case c_behind => k_is)
    (case k_behind => k_is)
    (case a_shifts_of => k_is)
    (case l_shifts_of => k_is)
    (case c_shifts_of => k_is)
    (case k_shifts_of => k_is)
    (case a_is_end => k_is)
    (case l_is_end => k_is)
    (case c_is_end => k_is)
    (case k_is_end => k_is)
    (case a_must => k_is)
    (case l_must => k_is)
    (case c_must => k_is)
    (case k_must => k_is)
    (case a_is_shelf => k_is)
    (case l_is_shelf => k_is)
    (case c_is_shelf => k_is)
    (case k_is_shelf => k_is)
    (case a_is_wish => k_is)
    (case l_is_wish => k_is)
    (case c_is_wish => k_is)
    (case k_is_wish => k_is)
    (case a_Store_goods => k_is)
    (case i_Store_goods => k_is)
    (case l_Store_goods => k_is)
    (case c_Store_goods => k_is)
    (case k_Store_goods => k_is)
    (case a_Store_reaches => k_is)
    (case i_Store_reaches => k_is)
    (case l_Store_reaches => k_is)
    (case c_Store_reaches => k_is)
    (case k_Store_reaches => k_is)
    (case a_l_taken => k_is)
    (case l_l_taken => k_is)
    (case c_l_taken => k_is)
    (case k_l_taken => k_is)
    (case a_l_goods => k_is)
    (case l_l_goods => k_is)
    (case c_l_goods => k_is)
    (case k_l_goods => k_is)
    (case a_l_behind => k_is)
    (case l_l_behind => k_is)
    (case c_l_behind => k_is)
    (case k_l_behind => k_is)
    (case a_l_every => k_is)
    (case l_l_every => k_is)
    (case c_l_every => k_is)
    (case k_l_every => k_is)
    (case a_l_begin => k_is)
    (case l_l_begin => k_is)
    (case c_l_begin => k_is)
    (case k_l_begin => k_is)
    (case a_l_word => k_is)
    (case l_l_word => k_is)
    (case c_l_word => k_is)
    (case k_l_word => k_is)
    (case a_bar_of_wish => k_is)
    (case l_bar_of_wish => k_is)
    (case c_bar_of_wish => k_is)
    (case k_bar_of_wish => k_is)
    (case a_shifts => k_is)
    (case l_shifts => k_is)
    (case c_shifts => k_is)
    (case k_shifts => k_is)
    (case a_Store_init => k_is)
    (case i_Store_init => k_is)
    (case l_Store_init => k_is)
    (case c_Store_init => k_is)
    (case k_Store_init => k_is)
    (case a_l_wish => k_is)
    (case l_l_wish => k_is)
    (case c_l_wish => k_is)
    (case k_l_wish => k_is)
    (case a_l_bar_of_wish => k_is)
    (case l_l_bar_of_wish => k_is)
    (case c_l_bar_of_wish => k_is)
    (case k_l_bar_of_wish => k_is)
    (case a_l_none => k_is)
    (case l_l_none => k_is)
    (case c_l_none => k_is)
    (case k_l_none => k_is)
    (case a_bar_of => k_is)
    (case l_bar_of => k_is)
    (case c_bar_of => k_is)
    (case k_bar_of => k_is)
    (case a_l_store => k_is)
    (case l_l_store => k_is)
    (case c_l_store => k_is)
    (case k_l_store => k_is)
    (case a_l_bar => k_is)
    (case l_l_bar => k_is)
    (case c_l_bar => k_is)
    (case k_l_bar => k_is)
    (case a_barred => k_is)
    (case l_barred => k_is)
    (case c_barred => k_is)
    (case k_barred => k_is)
    (case a_gone => k_is)
    (case l_gone => k_is)
    (case c_gone => k_is)
    (case k_gone => k_is)
    (case a_l_made => k_is)
    (case l_l_made => k_is)
    (case c_l_made => k_is)
    (case k_l_made => k_is)
    (case a_l_steps => k_is)
    (case l_l_steps => k_is)
    (case c_l_steps => k_is)
    (case k_l_steps => k_is)
    (case a_l_due => k_is)
    (case l_l_due => k_is)
    (case c_l_due => k_is)
    (case k_l_due => k_is)
    (case a_played => k_is)
    (case l_played => k_is)
    (case c_played => k_is)
    (case k_played => k_is)
    (case a_law => k_is)
    (case l_law => k_is)
    (case c_law => k_is)
    (case w_code => k_is)
    (case w_v11 => rfl)
    (case w_g11 => rfl)
    (case w_g18 => rfl)
    (case w_g7 => rfl)
    (case w_g9 => rfl)
    (case w_g10 => rfl)
    (case w_tab => rfl)
    (case w_ne => decide)
    (case k_law => k_is)
    (case n_aisle => k_is)
    (case n_kept_shelves => k_is)
    (case n_kept_wishes => k_is)
    (case z_ValueError => k_is)
    (case z_int => k_is)
    (case z_isinstance => k_is)
    (case z_len => k_is)
    (case z_list => k_is)
    (case z_max => k_is)
    (case z_min => k_is)
    (case z_range => k_is)
    (case z_set => k_is)
    (case z_sorted => k_is)
    (case z_sum => k_is)
    (case z_tuple => k_is)
    (case e0_BadStore => k_is)
    (case e0_BadStep => k_is)
    (case e0_Barred => k_is)
    (case e0_BadText => k_is)
    (case e0_AisleError => k_is)
    (case eg => k_is)
    (case et => k_is)
    (case ea1 => k_is)
    (case ea2 => k_is)
    (case ea3 => k_is)
    (case ea4 => k_is)
    (case ea5 => k_is)
    (case ea6 => k_is)
    (case ex1_BadStore => k_is)
    (case ex2_BadStore => k_is)
    (case ex3_BadStore => k_is)
    (case ex4_BadStore => k_is)
    (case ex5_BadStore => k_is)
    (case ex6_BadStore => k_is)
    (case ex7_BadStore => k_is)
    (case ex8_BadStore => k_is)
    (case ex9_BadStore => k_is)
    (case exk_BadStore => k_is)
    (case en_BadStore_word => k_is)
    (case en_BadStore_number => k_is)
    (case en_BadStore_rule => k_is)
    (case en_BadStore_at => k_is)
    (case en_BadStore_row => k_is)
    (case es_BadStore_BadStep => k_is)
    (case es_BadStore_Barred => k_is)
    (case es_BadStore_BadText => k_is)
    (case ex1_BadStep => k_is)
    (case ex2_BadStep => k_is)
    (case ex3_BadStep => k_is)
    (case ex4_BadStep => k_is)
    (case ex5_BadStep => k_is)
    (case ex6_BadStep => k_is)
    (case ex7_BadStep => k_is)
    (case ex8_BadStep => k_is)
    (case ex9_BadStep => k_is)
    (case exk_BadStep => k_is)
    (case en_BadStep_word => k_is)
    (case en_BadStep_number => k_is)
    (case en_BadStep_rule => k_is)
    (case en_BadStep_at => k_is)
    (case en_BadStep_row => k_is)
    (case es_BadStep_BadStore => k_is)
    (case es_BadStep_Barred => k_is)
    (case es_BadStep_BadText => k_is)
    (case ex1_Barred => k_is)
    (case ex2_Barred => k_is)
    (case ex3_Barred => k_is)
    (case ex4_Barred => k_is)
    (case ex5_Barred => k_is)
    (case ex6_Barred => k_is)
    (case ex7_Barred => k_is)
    (case ex8_Barred => k_is)
    (case ex9_Barred => k_is)
    (case exk_Barred => k_is)
    (case en_Barred_word => k_is)
    (case en_Barred_number => k_is)
    (case en_Barred_rule => k_is)
    (case en_Barred_at => k_is)
    (case en_Barred_row => k_is)
    (case es_Barred_BadStore => k_is)
    (case es_Barred_BadStep => k_is)
    (case es_Barred_BadText => k_is)
    (case ex1_BadText => k_is)
    (case ex2_BadText => k_is)
    (case ex3_BadText => k_is)
    (case ex4_BadText => k_is)
    (case ex5_BadText => k_is)
    (case ex6_BadText => k_is)
    (case ex7_BadText => k_is)
    (case ex8_BadText => k_is)
    (case ex9_BadText => k_is)
    (case exk_BadText => k_is)
    (case en_BadText_word => k_is)
    (case en_BadText_number => k_is)
    (case en_BadText_rule => k_is)
    (case en_BadText_at => k_is)
    (case en_BadText_row => k_is)
    (case es_BadText_BadStore => k_is)
    (case es_BadText_BadStep => k_is)
    (case es_BadText_Barred => k_is)
    (case ed_BadStore_BadStep => decide)
    (case ed_BadStore_Barred => decide)
    (case ed_BadStore_BadText => decide)
    (case ed_BadStep_Barred => decide)
    (case ed_BadStep_BadText => decide)
    (case ed_Barred_BadText => decide)
    (case eo_BadStep => k_exc)
    (case ec_Barred => k_is)
    (case ev_Barred => rfl)
    (case ew_Barred => k_is)
    (case ei_Barred => k_is)
    (case ej_Barred => k_is)
    (case el_Barred => k_is)
    (case em_Barred => k_is)
    (case eq_Barred => k_is)
    (case g_KINDS => k_is)
    (case h_KINDS => k_is)
    (case g_MOST_KEEP => k_is)
    (case g_MOST_ROOM => k_is)
    (case g_MOST_SHELVES => k_is)
    (case g_MOST_WISHES => k_is)
    (case g_SIDES => k_is)
    (case h_SIDES => k_is)
    (case g_WAIT => k_is)
    (case h_WAIT => k_is)

